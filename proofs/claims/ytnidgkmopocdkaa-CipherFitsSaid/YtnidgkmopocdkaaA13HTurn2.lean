import Derived.Test.YtnidgkmopocdkaaA13HTurn
namespace Go.Proofs.Ytnidgkmopocdkaa.P
open Go.RowKit Go.Proofs.YtnidgkmopocdkaaW.PrintWords Go.Proofs.YtnidgkmopocdkaaW.PrintLast Go.Proofs.YtnidgkmopocdkaaW.PrintMore
set_option linter.unusedVariables false
set_option linter.unusedSimpArgs false
def invFrom (sz n : Int) : Nat → Int → Int
 | 0, _ => 0
 | d + 1, m => if Int.tmod (wrap64 (m * n)) sz = 1 then m else invFrom sz n d (m + 1)
def invV (sz n : Int) : Int := invFrom sz n sz.toNat 0
theorem inverse_l0 (sz wd n : Int) (keys : List S91) (days : List Int) (h0 : 0 < sz) (h1 : sz ≤ 41) : ∀ (d : Nat) (m : Int) (k : Nat), 0 ≤ m → m + d = sz → d < k → cipher_Book_inverse.l0 k n sz m sz wd keys days = some (invFrom sz n d m)
 | 0, m, k, hm, hd, hk => by
  obtain ⟨k, rfl⟩ : ∃ j, k = j + 1 := ⟨k - 1, by omega⟩
  simp only [cipher_Book_inverse.l0, invFrom]
  rw [if_neg (by omega)]
 | d + 1, m, k, hm, hd, hk => by
  obtain ⟨k, rfl⟩ : ∃ j, k = j + 1 := ⟨k - 1, by omega⟩
  simp only [cipher_Book_inverse.l0, invFrom]
  rw [if_pos (by omega), if_neg (by omega)]
  by_cases h : Int.tmod (wrap64 (m * n)) sz = 1
  ·rw [if_pos h, if_pos h]
  ·rw [if_neg h, if_neg h, wrap_of (by omega) (by omega)]
   exact inverse_l0 sz wd n keys days h0 h1 d (m + 1) k (by omega) (by omega) (by omega)
theorem inverse_f (sz wd n : Int) (keys : List S91) (days : List Int) (h0 : 0 < sz) (h1 : sz ≤ 41) : cipher_Book_inverse.f 100 sz wd keys days n = some (invV sz n) := by
 unfold cipher_Book_inverse.f invV
 exact inverse_l0 sz wd n keys days h0 h1 _ 0 100 (by omega) (by omega) (by omega)
def decodeV (sz k0 k1 k2 n i : Int) : Int := Int.tmod (wrap64 ((Int.tmod (wrap64 ((wrap64 (n + (Int.tmod (wrap64 (sz - k1)) sz))) + (wrap64 (i * (wrap64 (sz - k2)))))) sz) * invV sz k0)) sz
theorem decode_f (sz wd k0 k1 k2 n i : Int) (keys : List S91) (days : List Int) (h0 : 0 < sz) (h1 : sz ≤ 41) : cipher_Book_decode.f 100 sz wd keys days k0 k1 k2 n i = some (decodeV sz k0 k1 k2 n i) := by
 unfold cipher_Book_decode.f decodeV
 rw [if_neg (by omega), inverse_f _ _ _ _ _ h0 h1]; rfl
def cipher_turned_decode.f (a0_0 : Int) (a0_1 : Int) (l0_2 : List (S91)) (l0_3 : List Int) (a2_0 : Int) (a2_1 : Int) (a2_2 : Int) (l3 : List Int) : Option (List Int) := if a0_0 ≤ 0 then none else if 41 < a0_0 then none else if 1000 ≤ l3.length then none else some (turnL (decodeV a0_0 a2_0 a2_1 a2_2) l3 l3.length)
theorem turned_len {sz wd : Int} {keys : List S91} {days : List Int} {k0 k1 k2 : Int} {l r : List Int} (h : cipher_turned_decode.f sz wd keys days k0 k1 k2 l = some r) : r.length < 1000 := by
 unfold cipher_turned_decode.f at h
 split at h
 ·cases h
 split at h
 ·cases h
 split at h
 ·cases h
 obtain rfl := Option.some.inj h
 rw [turnL_length]
 omega
theorem cipher_turned_decode.calls (a0_0 : Int) (a0_1 : Int) (A0_2 : Option Addr) (c0_2 : Nat) (l0_2 : List (S91)) (A0_3 : Option Addr) (c0_3 : Nat) (l0_3 : List Int) (a2_0 : Int) (a2_1 : Int) (a2_2 : Int) (A3 : Option Addr) (c3 : Nat) (l3 : List Int) (r : List Int) (w : World) (hr0_2 : Kd.C k91 w A0_2 l0_2.length l0_2) (hc0_2 : l0_2.length ≤ c0_2) (hr0_3 : Kd.C (Kd.int .i64) w A0_3 l0_3.length l0_3) (hc0_3 : l0_3.length ≤ c0_3) (hr3 : Kd.C (Kd.int .i64) w A3 l3.length l3) (hc3 : l3.length ≤ c3) (h : cipher_turned_decode.f a0_0 a0_1 l0_2 l0_3 a2_0 a2_1 a2_2 l3 = some r) :
  Calls Try.prog 59 #[.agg #[.int .i64 a0_0, .int .i64 a0_1, .slice A0_2 l0_2.length c0_2, .slice A0_3 l0_3.length c0_3], .agg #[.func (.func 66) #[] #[]], .agg #[.int .i64 a2_0, .int .i64 a2_1, .int .i64 a2_2], .slice A3 l3.length c3] w fun e w' => ∃ v0_ : Value, e = .returned (v0_) ∧ Kd.R (Kd.int .i64) 3 w' w.heap.size (fun _ => True) v0_ r ∧ Below w.heap.size w w' := by
 unfold cipher_turned_decode.f at h
 by_cases hz : a0_0 ≤ 0
 ·rw [if_pos hz] at h; cases h
 rw [if_neg hz] at h
 by_cases hy : 41 < a0_0
 ·rw [if_pos hy] at h; cases h
 rw [if_neg hy] at h
 by_cases hl : 1000 ≤ l3.length
 ·rw [if_pos hl] at h; cases h
 rw [if_neg hl] at h
 obtain rfl := Option.some.inj h
 refine turned_any 66 (decodeV a0_0 a2_0 a2_1 a2_2) a0_0 a0_1 A0_2 c0_2 l0_2 A0_3 c0_3 l0_3 a2_0 a2_1 a2_2 A3 c3 l3 w hr3 (by omega) (fun args w => by go_simp) (fun i hi W hW => ?_)
 exact cipher_Book_decode.calls 100 a0_0 a0_1 A0_2 c0_2 l0_2 A0_3 c0_3 l0_3 a2_0 a2_1 a2_2 _ _ _ W (Kd.C_below hr0_2 hW) hc0_2 (Kd.C_below hr0_3 hW) hc0_3 (decode_f _ _ _ _ _ _ _ _ _ (by omega) (by omega))
end Go.Proofs.Ytnidgkmopocdkaa.P

import Derived.Test.YtnidgkmopocdkaaA12P28
import Derived.Test.YtnidgkmopocdkaaA12HCount
import Derived.Test.YtnidgkmopocdkaaA12HBack
namespace Go.Proofs.Ytnidgkmopocdkaa.Pure
open Go.RowKit Go.Proofs.Ytnidgkmopocdkaa.P Go.Proofs.YtnidgkmopocdkaaW.PrintWords Go.Proofs.YtnidgkmopocdkaaW.PrintLast
theorem more_l0 (p q : List Int) (hp : p.length ≤ 50) (hq : q.length ≤ 50) (h : ∀ n ∈ q, n ∈ p) : ∀ (d k i : Nat), i + d = q.length → d + 60 < k → glisterlaw04_CipherMore.l0 k p q (i : Int) = some true
 | 0, k, i, hd, hk => by
  obtain ⟨k, rfl, _⟩ := succ_of hk
  simp only [glisterlaw04_CipherMore.l0]
  rw [if_neg (by omega)]
  rfl
 | d + 1, k, i, hd, hk => by
  obtain ⟨k, rfl, _⟩ := succ_of hk
  have hi : i < q.length := by omega
  have ih := more_l0 p q hp hq h d k (i + 1) (by omega) (by omega)
  rw [show (((i + 1 : Nat)) : Int) = (i : Int) + 1 by omega] at ih
  simp only [glisterlaw04_CipherMore.l0]
  rw [if_pos (by omega), if_pos (by omega), rd_at hi, has_f _ _ (by omega) (by omega), Option.bind_some, decide_eq_true (h _ (List.getElem_mem hi)), if_pos rfl, wrap_of (show -9223372036854775808 ≤ (i : Int) + 1 by omega) (by omega)]
  exact ih
theorem more_end {n m all : Nat} {p q : List Int} (hp : p.length ≤ 50) (hq : q.length ≤ 50) (h1 : m ≤ n) (h2 : n ≤ all) (h3 : ∀ x ∈ q, x ∈ p) (hq0 : m = 0 → q.length = 0) : glisterlaw04_CipherMore.j1 203 (n : Int) (if n = 0 then 11 else 0) (m : Int) (if m = 0 then 11 else 0) p q (all : Int) false = some true := by
 rw [show (203 : Nat) = 202 + 1 from rfl]
 simp only [glisterlaw04_CipherMore.j1, Bool.false_eq_true, if_false]
 by_cases hm : m = 0
 ·rw [if_pos hm, if_neg (show ¬ (11 : Int) = 0 by decide), if_pos rfl, if_pos (show (m : Int) = 0 by omega), if_pos (show (q.length : Int) = 0 by have := hq0 hm; omega)]
  rfl
 ·rw [if_neg hm, if_pos rfl, if_neg (show ¬ n = 0 by omega), if_pos rfl, if_neg (by omega), show decide ((n : Int) > (all : Int)) = false from decide_eq_false (by omega)]
  rw [show (202 : Nat) = 201 + 1 from rfl]
  simp only [glisterlaw04_CipherMore.j2, Bool.false_eq_true, if_false]
  have e := more_l0 p q hp hq h3 q.length 201 0 (by omega) (by omega)
  rw [show ((0 : Nat) : Int) = 0 from rfl] at e
  exact e
theorem CipherMore : ∀ (a0_0 a0_1 : Int) (l0_2 : List S82) (l0_3 : List Int) (l1 : List Int) (l2 : List S85) (a3_0 a3_1 : Int) (a4 : Int), W64 a0_0 → W64 a0_1 → (∀ y ∈ l0_2, Wf82 y) → (∀ y ∈ l0_3, W64 y) → (∀ y ∈ l1, W64 y) → (∀ y ∈ l2, Wf85 y) → l2.length * 16 ≤ 140737488351232 → W64 a3_0 → W64 a3_1 → W8 a4 → ∃ k, glisterlaw04_CipherMore.f k a0_0 a0_1 l0_2 l0_3 l1 l2 a3_0 a3_1 a4 = some true := by
 intro sz wd keys days codes gs g0 g1 a _ _ _ _ _ _ _ _ _ ha
 have hb := bounds_u8 ha
 refine ⟨204, ?_⟩
 have haw : glisterlaw04_CipherMore.j0 204 codes gs a true sz wd keys days g0 g1 = some true := by
  rw [show (204 : Nat) = 203 + 1 from rfl]
  simp only [glisterlaw04_CipherMore.j0, if_true]
  rfl
 unfold glisterlaw04_CipherMore.f
 rw [ready_f _ _ _ _ _ (by omega), Option.bind_some]
 cases hr : readyB sz wd (keys.map toK) days codes with
 | false => rw [if_neg (by decide)]; exact haw
 | true =>
  rw [if_pos rfl]
  by_cases hc0 : codes.length = 0
  ·rw [if_pos (show (codes.length : Int) = 0 by omega)]; exact haw
  rw [if_neg (show ¬ (codes.length : Int) = 0 by omega)]
  by_cases h5 : 5 < gs.length
  ·rw [show decide ((gs.length : Int) > 5) = true from decide_eq_true (by omega)]; exact haw
  rw [show decide ((gs.length : Int) > 5) = false from decide_eq_false (by omega)]
  obtain ⟨hc, hl, hp⟩ := ready_is hr
  have g := good_of hc
  have hL : (keys.map toK).length = keys.length := List.length_map _
  have hk5 : keys.length ≤ 5 := by have := g.k5; omega
  have hd8 := g.d8
  have hz : 13 ≤ sz ∧ sz ≤ 41 := ⟨g.s0, g.s1⟩
  rw [show (204 : Nat) = 203 + 1 from rfl]
  simp only [glisterlaw04_CipherMore.j0, Bool.false_eq_true, if_false]
  have hxl : (gs ++ [(⟨g0, g1⟩ : S85)]).length = gs.length + 1 := by simp
  rw [Option.bind_some, if_pos (by simp; omega), Option.bind_some, Option.bind_some, if_pos (by simp; omega), Option.bind_some, List.nil_append, asked_f _ _ _ _ _ _ (by omega) (by omega) (by omega), Option.bind_some]
  by_cases hA : askedV sz wd (keys.map toK) days codes ((gs ++ [(⟨g0, g1⟩ : S85)]).map toG) = 0
  ·have hM : (gs ++ [(⟨g0, g1⟩ : S85)]).map toG = gs.map toG ++ [⟨g0, g1⟩] := by rw [List.map_append]; rfl
   have AX := (ask_of hA).1
   rw [hM] at AX
   have A1 : AskG sz codes (gs.map toG) := AX.tail (fun q hq => List.mem_append_left _ hq)
   have A0 : AskG sz codes [] := AX.tail (fun q hq => by cases hq)
   have hA1 := asked_zero hc A1 (by rw [List.length_map]; omega)
   have hA0 := asked_zero hc A0 (by simp)
   have hi := tmod_bd (a := a) (b := (codes.length : Int)) hb.1 (by omega)
   have F1 := fits_ok hA1
   have F2 := fits_ok hA
   have F0 := fits_ok hA0
   rw [if_pos hA, if_neg (show ¬ (codes.length : Int) = 0 by omega), wrap_of (show -9223372036854775808 ≤ a by omega) (by omega)]
   generalize Int.tmod a (codes.length : Int) = i at *
   have P1 := poss_ok hA1 hi.1 hi.2
   have P2 := poss_ok hA hi.1 hi.2
   have P0 := poss_ok hA0 hi.1 hi.2
   have hKA := keys_all sz codes
   have hPA := poss_all A0 hi.1 hi.2
   have hK0 : (keysL sz codes []).length ≠ 0 := by
    rw [hKA]
    exact Nat.ne_of_gt (Nat.mul_pos (by omega) (Nat.mul_pos (by omega) (by omega)))
   rw [if_neg hK0] at F0 P0
   have L1 : (possOut sz codes (gs.map toG) i).length ≤ 50 := by have := poss_len (sz := sz) (codes := codes) (gs := gs.map toG) (i := i); omega
   have L2 : (possOut sz codes (gs.map toG ++ [⟨g0, g1⟩]) i).length ≤ 50 := by have := poss_len (sz := sz) (codes := codes) (gs := gs.map toG ++ [⟨g0, g1⟩]) (i := i); omega
   have hall : (((keysL sz codes []).length : Nat) : Int) = wrap64 (wrap64 (sz * sz) * wrap64 (sz - 1)) := by
    have b1 : 0 ≤ sz * sz := Int.mul_nonneg (by omega) (by omega)
    have b2 : sz * sz ≤ 41 * 41 := Int.mul_le_mul (by omega) (by omega) (by omega) (by omega)
    have b3 : 0 ≤ sz * sz * (sz - 1) := Int.mul_nonneg b1 (by omega)
    have b4 : sz * sz * (sz - 1) ≤ 41 * 41 * 40 := Int.mul_le_mul b2 (by omega) (by omega) (by omega)
    rw [wrap_of (show -9223372036854775808 ≤ sz * sz by omega) (by omega), wrap_of (show -9223372036854775808 ≤ sz - 1 by omega) (by omega), wrap_of (by omega) (by omega), hKA]
    rw [Int.natCast_mul, Int.natCast_mul, Int.toNat_of_nonneg (show 0 ≤ sz - 1 by omega), Int.toNat_of_nonneg (show 0 ≤ sz by omega), Int.mul_comm]
   rw [Book_f sz wd keys days (by omega) (by omega) (by omega), Option.bind_some, list_f (by omega), Option.bind_some, Guesses_f gs (by omega) (by omega), Option.bind_some, F1, Option.bind_some, Option.bind_some, Option.bind_some, Guesses_f (gs ++ [(⟨g0, g1⟩ : S85)]) (by omega) (by omega), Option.bind_some, F2, Option.bind_some, Option.bind_some, Option.bind_some, Option.bind_some, P1, Option.bind_some, Option.bind_some, Option.bind_some, Option.bind_some, P2, Option.bind_some, Option.bind_some, Option.bind_some, F0, Option.bind_some, Option.bind_some, Option.bind_some, P0, Option.bind_some, if_pos rfl, if_pos hall, if_pos rfl, if_pos (show (((possOut sz codes [] i).length : Nat) : Int) = sz by rw [hPA]; omega), if_pos rfl]
   rw [hM]
   have hnil := (poss_nil AX hi.1 hi.2).2
   rw [show ((if (keysL sz codes (gs.map toG ++ [⟨g0, g1⟩])).length = 0 then (11 : Int) else 0) != (if (keysL sz codes (gs.map toG ++ [⟨g0, g1⟩])).length = 0 then 11 else 0)) = false from bne_self_eq_false _]
   exact more_end L1 L2 (keys_more (by omega) codes _ _) (keys_most (by omega) codes _) (fun x hx => poss_more AX hi.1 hi.2 hx) hnil
  ·rw [if_neg hA]
   rfl
end Go.Proofs.Ytnidgkmopocdkaa.Pure

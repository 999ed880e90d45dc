import Derived.Test.YtnidgkmopocdkaaA6P21
import Derived.Test.YtnidgkmopocdkaaA6HWrong
namespace Go.Proofs.Ytnidgkmopocdkaa.Pure
open Go.RowKit Go.Proofs.Ytnidgkmopocdkaa.P Go.Proofs.YtnidgkmopocdkaaW.PrintWords Go.Proofs.YtnidgkmopocdkaaW.PrintLast
theorem other {sz d b : Int} (h0 : 13 ≤ sz) (h1 : sz ≤ 41) (hd : 0 ≤ d ∧ d < sz) (hb : 0 ≤ b) : 0 ≤ Int.tmod (wrap64 (wrap64 (d + 1) + Int.tmod b (wrap64 (sz - 1)))) sz ∧ Int.tmod (wrap64 (wrap64 (d + 1) + Int.tmod b (wrap64 (sz - 1)))) sz < sz ∧ Int.tmod (wrap64 (wrap64 (d + 1) + Int.tmod b (wrap64 (sz - 1)))) sz ≠ d := by
 rw [wrap_of (show -9223372036854775808 ≤ sz - 1 by omega) (by omega), wrap_of (show -9223372036854775808 ≤ d + 1 by omega) (by omega)]
 have m := tmod_bd (a := b) (b := sz - 1) hb (by omega)
 generalize Int.tmod b (sz - 1) = c at *
 rw [wrap_of (by omega) (by omega), tmod_pos (by omega)]
 refine ⟨Int.emod_nonneg _ (by omega), Int.emod_lt_of_pos _ (by omega), fun e => ?_⟩
 have := Int.emod_add_mul_ediv (d + 1 + c) sz
 rw [e] at this
 have := small_dvd (sz := sz) (d := 1 + c) (q := (d + 1 + c) / sz) (by omega) (by omega) (by omega)
 omega
theorem CipherWrong : ∀ (a0_0 a0_1 : Int) (l0_2 : List S82) (l0_3 : List Int) (l1 : List Int) (a2 : Int) (a3 : Int) (a4 : Int) (a5 : Int), W64 a0_0 → W64 a0_1 → (∀ y ∈ l0_2, Wf82 y) → (∀ y ∈ l0_3, W64 y) → (∀ y ∈ l1, W64 y) → W8 a2 → W8 a3 → W8 a4 → W8 a5 → ∃ k, glisterlaw04_CipherWrong.f k a0_0 a0_1 l0_2 l0_3 l1 a2 a3 a4 a5 = some true := by
 intro sz wd keys days l a a3 a4 a5 _ _ _ _ _ ha ha3 ha4 ha5
 have hb := bounds_u8 ha
 have hb3 := bounds_u8 ha3
 have hb4 := bounds_u8 ha4
 have hb5 := bounds_u8 ha5
 refine ⟨304, ?_⟩
 unfold glisterlaw04_CipherWrong.f
 rw [ready_f _ _ _ _ _ (by omega), Option.bind_some]
 cases hr : readyB sz wd (keys.map toK) days l with
 | false => rw [if_neg (by decide)]; rfl
 | true =>
  obtain ⟨hc, hl, hp⟩ := ready_is hr
  have g := good_of hc
  have hk : keys.length ≤ 5 := by have := g.k5; rw [List.length_map] at this; exact this
  have hdn : days.length ≤ 8 := g.d8
  have hd := dayOf_bd hb.1 hb.2 g.d0
  have hdb : dayB days.length (dayOf days.length a) = true := (dayB_iff (by omega)).2 hd
  have F := fine_of hc hl hp hd.1 hd.2
  have hcl := codeL_len sz (rd_T91 (keys.map toK) (rd days (dayOf days.length a))) (indV (keys.map toK).length days (dayOf days.length a)) l
  have hlen := F.ln
  have hs := F.sz
  have E1 := code_ok (k := 304) hc hdb hl hp (by omega)
  have E2 := dec_ok (k := 303) (l := codeL sz (rd_T91 (keys.map toK) (rd days (dayOf days.length a))) (indV (keys.map toK).length days (dayOf days.length a)) l) hc hdb (by omega) (by omega)
  have E3 := fun (x : List Int) (hx : x.length ≤ 100) => dec_ok (k := 303) (l := x) hc hdb hx (by omega)
  have W1 := fun (i : Nat) hi v hv hne => wrong_one (wd := wd) F (i := i) hi (v := v) hv hne
  have W2 := fun (i k : Nat) hi hk hne => wrong_two (wd := wd) F (i := i) (k := k) hi hk hne
  have PS := fun (i : Nat) hi => F.pos (i := i) hi
  have BK := dec_back (wd := wd) F
  generalize codeL sz (rd_T91 (keys.map toK) (rd days (dayOf days.length a))) (indV (keys.map toK).length days (dayOf days.length a)) l = c at *
  rw [if_pos rfl, if_neg (show ¬ (days.length : Int) = 0 by have := g.d0; omega), Book_f sz wd keys days (by omega) (by omega) (by omega), Option.bind_some, list_f (by omega), Option.bind_some, show Int.tmod (wrap64 a) (days.length : Int) = dayOf days.length a from rfl, E1, Option.bind_some, if_pos rfl]
  rw [show ((c.length : Int) != wrap64 ((l.length : Int) + 2)) = false from by rw [wrap_of (by omega) (by omega)]; exact bne_eq_false_iff_eq.2 (by omega)]
  rw [show (304 : Nat) = 303 + 1 from rfl]
  simp only [glisterlaw04_CipherWrong.j0, Bool.false_eq_true, if_false]
  rw [wrap_of (show -9223372036854775808 ≤ a3 by omega) (by omega), wrap_of (show -9223372036854775808 ≤ a4 by omega) (by omega), wrap_of (show -9223372036854775808 ≤ a5 by omega) (by omega), if_neg (by omega)]
  have t3 := tmod_bd (a := a3) (b := (c.length : Int)) hb3.1 (by omega)
  have t4 := tmod_bd (a := a4) (b := (c.length : Int)) hb4.1 (by omega)
  generalize Int.tmod a3 (c.length : Int) = i3 at *
  generalize Int.tmod a4 (c.length : Int) = i4 at *
  obtain ⟨i, rfl⟩ : ∃ n : Nat, i3 = (n : Int) := ⟨i3.toNat, by omega⟩
  obtain ⟨k, rfl⟩ : ∃ n : Nat, i4 = (n : Int) := ⟨i4.toNat, by omega⟩
  have hi : i < c.length := by omega
  have hk' : k < c.length := by omega
  rw [list_f (by omega), Option.bind_some, Option.bind_some, if_pos (by omega), if_pos (by omega), if_neg (by rw [wrap_of (by omega) (by omega)]; omega), if_neg (by omega), if_pos (by omega), if_pos (by omega), if_pos (by omega), if_pos (by omega), if_pos (by omega), Book_f sz wd keys days (by omega) (by omega) (by omega), Option.bind_some]
  rw [rd_at hi, rd_at hk', Int.toNat_natCast, Int.toNat_natCast]
  obtain ⟨o1, o2, o3⟩ := other hs.1 hs.2 (PS i hi) hb5.1
  have w1 := W1 i hi _ ⟨o1, o2⟩ o3
  rw [E3 _ (by rw [List.length_set]; omega), Option.bind_some, Option.bind_some, E3 _ (by rw [List.length_set, List.length_set]; omega), Option.bind_some, if_neg w1, (decV_err w1).1, (decV_err w1).2, show decide (wrap64 ((([] : List Int).length : Int) + (([] : List Int).length : Int)) > 0) = false from by rw [wrap_of (by decide) (by decide)]; rfl]
  rw [show (303 : Nat) = 302 + 1 from rfl]
  simp only [glisterlaw04_CipherWrong.j1, Bool.false_eq_true, if_false]
  rw [if_pos (by omega), if_pos (by omega), if_pos (by omega), if_pos (by omega), rd_at hi, rd_at hk']
  by_cases he : c[i] = c[k]
  ·have e : (c.set i c[k]).set k c[i] = c := by
    rw [← he, List.set_getElem_self, he, List.set_getElem_self]
   rw [if_pos he, e, BK, if_pos rfl]
   rfl
  ·have w2 := W2 i k hi hk' he
   rw [if_neg he, if_neg w2, (decV_err w2).1, (decV_err w2).2, if_pos (show wrap64 ((([] : List Int).length : Int) + (([] : List Int).length : Int)) = 0 from wrap_of (by decide) (by decide))]
   rfl
end Go.Proofs.Ytnidgkmopocdkaa.Pure

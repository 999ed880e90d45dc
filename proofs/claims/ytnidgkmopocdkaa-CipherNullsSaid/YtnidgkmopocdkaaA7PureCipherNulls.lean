import Derived.Test.YtnidgkmopocdkaaA7P22
import Derived.Test.YtnidgkmopocdkaaA7HBack
namespace Go.Proofs.Ytnidgkmopocdkaa.Pure
open Go.RowKit Go.Proofs.Ytnidgkmopocdkaa.P Go.Proofs.YtnidgkmopocdkaaW.PrintWords Go.Proofs.YtnidgkmopocdkaaW.PrintLast
theorem kept_all (wd : Int) (l : List Int) : keptL wd l l.length = l.filter fun n => !decide (wd ≤ n) := by
 unfold keptL
 rw [List.take_of_length_le (Nat.le_refl _)]
theorem kept_null {wd v : Int} (l : List Int) (q : Nat) (hv : wd ≤ v) : keptL wd (l.take q ++ [v] ++ l.drop q) (l.take q ++ [v] ++ l.drop q).length = keptL wd l l.length := by
 rw [kept_all, kept_all, List.filter_append, List.filter_append]
 conv => rhs; rw [← List.take_append_drop q l, List.filter_append]
 simp [hv]
theorem CipherNulls : ∀ (a0_0 a0_1 : Int) (l0_2 : List S82) (l0_3 : List Int) (l1 : List Int) (a2 : Int) (a3 : Int) (a4 : Int), W64 a0_0 → W64 a0_1 → (∀ y ∈ l0_2, Wf82 y) → (∀ y ∈ l0_3, W64 y) → (∀ y ∈ l1, W64 y) → W8 a2 → W8 a3 → W8 a4 → ∃ k, glisterlaw04_CipherNulls.f k a0_0 a0_1 l0_2 l0_3 l1 a2 a3 a4 = some true := by
 intro sz wd keys days l a a3 a4 _ _ _ _ _ ha ha3 ha4
 have hb := bounds_u8 ha
 have hb3 := bounds_u8 ha3
 have hb4 := bounds_u8 ha4
 refine ⟨304, ?_⟩
 have haw : glisterlaw04_CipherNulls.j0 304 l a a3 a4 true sz wd keys days = some true := by
  rw [show (304 : Nat) = 303 + 1 from rfl]
  simp only [glisterlaw04_CipherNulls.j0, if_true]
  rfl
 unfold glisterlaw04_CipherNulls.f
 rw [ready_f _ _ _ _ _ (by omega), Option.bind_some]
 cases hr : readyB sz wd (keys.map toK) days l with
 | false => rw [if_neg (by decide)]; exact haw
 | true =>
  rw [if_pos rfl]
  by_cases h9 : 9 < l.length
  ·rw [if_pos (by omega)]; exact haw
  rw [if_neg (by omega)]
  by_cases hw : wd = sz
  ·rw [show (wd == sz) = true from beq_iff_eq.2 hw]; exact haw
  rw [show (wd == sz) = false from beq_eq_false_iff_ne.2 hw]
  obtain ⟨hc, hl, hp⟩ := ready_is hr
  have g := good_of hc
  have hk : keys.length ≤ 5 := by have := g.k5; rw [List.length_map] at this; exact this
  have hdn : days.length ≤ 8 := g.d8
  have hd := dayOf_bd hb.1 hb.2 g.d0
  have hdb : dayB days.length (dayOf days.length a) = true := (dayB_iff (by omega)).2 hd
  have hs : 13 ≤ sz ∧ sz ≤ 41 := ⟨g.s0, g.s1⟩
  have hwd := g.w1
  have hwd0 := g.w0
  rw [show (304 : Nat) = 303 + 1 from rfl]
  simp only [glisterlaw04_CipherNulls.j0, Bool.false_eq_true, if_false]
  rw [wrap_of (show -9223372036854775808 ≤ a3 by omega) (by omega), wrap_of (show -9223372036854775808 ≤ a4 by omega) (by omega), wrap_of (show -9223372036854775808 ≤ (l.length : Int) + 1 by omega) (by omega), wrap_of (show -9223372036854775808 ≤ sz - wd by omega) (by omega)]
  have t3 := tmod_bd (a := a3) (b := (l.length : Int) + 1) hb3.1 (by omega)
  have t4 := tmod_bd (a := a4) (b := sz - wd) hb4.1 (by omega)
  generalize Int.tmod a3 ((l.length : Int) + 1) = i3 at *
  generalize Int.tmod a4 (sz - wd) = i4 at *
  rw [wrap_of (show -9223372036854775808 ≤ wd + i4 by omega) (by omega)]
  obtain ⟨q, rfl⟩ : ∃ n : Nat, i3 = (n : Int) := ⟨i3.toNat, by omega⟩
  rw [Int.toNat_natCast]
  have hv0 : wd ≤ wd + i4 := by omega
  have hv1 : wd + i4 < sz := by omega
  generalize wd + i4 = v at *
  have hlt : (l.take q).length = q := by rw [List.length_take]; omega
  have hld : (l.drop q).length = l.length - q := List.length_drop
  have hml : (l.take q ++ [v] ++ l.drop q).length = l.length + 1 := by simp only [List.length_append, hlt, hld, List.length_singleton]; omega
  have hmp : (l.take q ++ [v] ++ l.drop q).all (plainB sz) = true := by
   refine all_plain hs.1 hs.2 fun x hx => ?_
   have hm : ∀ x ∈ l, 0 ≤ x ∧ x < sz := fun x hx => (plainB_iff hs.1 hs.2).1 (List.all_eq_true.1 hp x hx)
   rcases List.mem_append.1 hx with h | h
   ·rcases List.mem_append.1 h with h | h
    ·exact hm x (List.mem_of_mem_take h)
    ·simp at h; subst h; omega
   ·exact hm x (List.mem_of_mem_drop h)
  have hKN := kept_null l q hv0
  have F := fine_of hc hl hp hd.1 hd.2
  have F2 := fine_of hc (show (l.take q ++ [v] ++ l.drop q).length ≤ 10 by omega) hmp hd.1 hd.2
  have hcl := codeL_len sz (rd_T91 (keys.map toK) (rd days (dayOf days.length a))) (indV (keys.map toK).length days (dayOf days.length a)) l
  have hcl2 := codeL_len sz (rd_T91 (keys.map toK) (rd days (dayOf days.length a))) (indV (keys.map toK).length days (dayOf days.length a)) (l.take q ++ [v] ++ l.drop q)
  have E1 := code_ok (k := 303) hc hdb hl hp (by omega)
  have E1' := code_ok (k := 303) hc hdb (show (l.take q ++ [v] ++ l.drop q).length ≤ 10 by omega) hmp (by omega)
  have E2 := dec_ok (k := 303) (l := codeL sz (rd_T91 (keys.map toK) (rd days (dayOf days.length a))) (indV (keys.map toK).length days (dayOf days.length a)) l) hc hdb (by omega) (by omega)
  have E2' := dec_ok (k := 303) (l := codeL sz (rd_T91 (keys.map toK) (rd days (dayOf days.length a))) (indV (keys.map toK).length days (dayOf days.length a)) (l.take q ++ [v] ++ l.drop q)) hc hdb (by omega) (by omega)
  rw [dec_back F] at E2
  rw [dec_back F2] at E2'
  rw [hKN] at E2'
  have hkl := keptL_le wd l l.length
  rw [if_neg (show ¬ (days.length : Int) = 0 by have := g.d0; omega), if_neg (by omega), if_pos (by omega), if_pos (by omega), list_f (by omega), Option.bind_some, if_neg (by omega), Option.bind_some, if_pos (by rw [hlt]; simp; omega), Option.bind_some, if_pos (by simp only [List.length_append, hlt, hld, List.length_singleton]; omega), Option.bind_some]
  generalize l.take q ++ [v] ++ l.drop q = m at *
  generalize codeL sz (rd_T91 (keys.map toK) (rd days (dayOf days.length a))) (indV (keys.map toK).length days (dayOf days.length a)) l = c at *
  generalize codeL sz (rd_T91 (keys.map toK) (rd days (dayOf days.length a))) (indV (keys.map toK).length days (dayOf days.length a)) m = c2 at *
  rw [Book_f sz wd keys days (by omega) (by omega) (by omega), Option.bind_some, list_f (by omega), Option.bind_some, show Int.tmod (wrap64 a) (days.length : Int) = dayOf days.length a from rfl, E1, Option.bind_some, Option.bind_some, list_f (by omega), Option.bind_some, E1', Option.bind_some, Option.bind_some, E2, Option.bind_some, Option.bind_some, E2', Option.bind_some, if_pos rfl, if_pos rfl, if_pos rfl, if_pos rfl]
  rw [Same_refl (keptL wd l l.length) (by omega) (by omega), Option.bind_some, if_pos rfl, Same_refl m (by omega) (by omega), Option.bind_some, if_pos rfl]
  rfl
end Go.Proofs.Ytnidgkmopocdkaa.Pure

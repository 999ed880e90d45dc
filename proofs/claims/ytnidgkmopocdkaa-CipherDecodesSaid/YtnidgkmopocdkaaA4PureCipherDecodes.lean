import Derived.Test.YtnidgkmopocdkaaA4P19
import Derived.Test.YtnidgkmopocdkaaA4HDec
namespace Go.Proofs.Ytnidgkmopocdkaa.Pure
open Go.RowKit Go.Proofs.Ytnidgkmopocdkaa.P Go.Proofs.YtnidgkmopocdkaaW.PrintWords Go.Proofs.YtnidgkmopocdkaaW.PrintLast
theorem decodes_err (k : Nat) (day : Int) (l : List Int) (sz wd : Int) (keys : List S82) (days : List Int) (e : Int) (h : e ≠ 0) : glisterlaw04_CipherDecodes.j2 (k + 1) day l [] [] e e sz wd keys days = some true := by
 simp only [glisterlaw04_CipherDecodes.j2]
 rw [if_neg h, if_true, if_pos (show wrap64 ((([] : List Int).length : Int) + (([] : List Int).length : Int)) = 0 from wrap_of (by decide) (by decide))]
 rfl
theorem CipherDecodes : ∀ (a0_0 a0_1 : Int) (l0_2 : List S82) (l0_3 : List Int) (a1 : Int) (l2 : List Int), W64 a0_0 → W64 a0_1 → (∀ y ∈ l0_2, Wf82 y) → (∀ y ∈ l0_3, W64 y) → W64 a1 → (∀ y ∈ l2, W64 y) → ∃ k, glisterlaw04_CipherDecodes.f k a0_0 a0_1 l0_2 l0_3 a1 l2 = some true := by
 intro sz wd keys days day l _ _ _ _ _ _
 refine ⟨304, ?_⟩
 have haw : glisterlaw04_CipherDecodes.j0 304 day l true sz wd keys days = some true := by
  rw [show (304 : Nat) = 303 + 1 from rfl]
  simp only [glisterlaw04_CipherDecodes.j0, if_pos]
  rfl
 unfold glisterlaw04_CipherDecodes.f glisterlaw04_Thin.f
 by_cases h1 : keys.length ≤ 8
 ·rw [if_pos (by omega), Option.bind_some]
  by_cases h2 : days.length ≤ 11
  ·rw [if_pos (decide_eq_true (by omega))]
   by_cases h3 : 15 < l.length
   ·rw [show decide ((l.length : Int) > 15) = true from decide_eq_true (by omega)]; exact haw
   rw [show decide ((l.length : Int) > 15) = false from decide_eq_false (by omega), show (304 : Nat) = 303 + 1 from rfl]
   simp only [glisterlaw04_CipherDecodes.j0, Bool.false_eq_true, if_false]
   rw [Book_f sz wd keys days (by omega) (by omega) (by omega)]
   simp only [Option.bind_some]
   rw [list_f (by omega)]
   simp only [Option.bind_some]
   rw [fault_f _ _ _ _ (by omega)]
   by_cases hc : checkB sz wd (keys.map toK) days = 0
   ·cases hd : dayB days.length day with
    | false =>
     have hd' : inB day 0 (wrap64 ((days.length : Int) - 1)) = false := hd
     rw [dec_day hc hd, Option.bind_some, Option.bind_some, if_pos hc, In_f, Option.bind_some, hd']
     rw [show (303 : Nat) = 302 + 1 from rfl]
     simp only [glisterlaw04_CipherDecodes.j1, Bool.not_false, if_true]
     exact decodes_err 301 _ _ _ _ _ _ 2 (by decide)
    | true =>
     have hd' : inB day 0 (wrap64 ((days.length : Int) - 1)) = true := hd
     rw [dec_ok hc hd (by omega) (by omega), Option.bind_some, Option.bind_some, if_pos hc, In_f, Option.bind_some, hd']
     rw [show (303 : Nat) = 301 + 1 + 1 from rfl]
     simp only [glisterlaw04_CipherDecodes.j1, glisterlaw04_CipherDecodes.j2, Bool.not_true, Bool.false_eq_true, if_false]
     have hln := decV_len sz wd (rd_T91 (keys.map toK) (rd days day)) (indV (keys.map toK).length days day) l
     rw [if_pos hc, decR_ok hc hd (by omega) (by omega), Option.bind_some, if_pos rfl, Same_refl _ (by omega) (by omega), Option.bind_some, if_pos rfl, Same_refl _ (by omega) (by omega), Option.bind_some, if_pos rfl]
     rfl
   ·rw [dec_bad hc, Option.bind_some, Option.bind_some, if_neg hc]
    rw [show (303 : Nat) = 302 + 1 from rfl]
    simp only [glisterlaw04_CipherDecodes.j1, Bool.false_eq_true, if_false]
    exact decodes_err 301 _ _ _ _ _ _ _ hc
  ·rw [if_neg (by rw [decide_eq_true_iff]; omega)]; exact haw
 ·rw [if_neg (by omega), Option.bind_some, if_neg (by decide)]; exact haw
end Go.Proofs.Ytnidgkmopocdkaa.Pure

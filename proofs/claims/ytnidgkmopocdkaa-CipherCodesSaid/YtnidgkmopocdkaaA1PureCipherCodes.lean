import Derived.Test.YtnidgkmopocdkaaA1P18
import Derived.Test.YtnidgkmopocdkaaA1HPure2
namespace Go.Proofs.Ytnidgkmopocdkaa.Pure
open Go.RowKit Go.Proofs.Ytnidgkmopocdkaa.P Go.Proofs.YtnidgkmopocdkaaW.PrintWords Go.Proofs.YtnidgkmopocdkaaW.PrintLast
theorem codes_j1_err (k : Nat) (day : Int) (l : List Int) (sz wd : Int) (keys : List S82) (days : List Int) (e : Int) (h : e ≠ 0) : glisterlaw04_CipherCodes.j1 (k + 1) day l [] e e sz wd keys days = some true := by
 simp only [glisterlaw04_CipherCodes.j1]
 rw [if_neg h, if_true]
 rfl
theorem codes_j1_ok (k : Nat) (day : Int) (l c : List Int) (sz wd : Int) (keys : List S82) (days : List Int) (hc : c.length ≤ 50) (hr : glisterref04_Code.f (k + 60) sz wd keys days day l = some c) : glisterlaw04_CipherCodes.j1 (k + 60 + 1) day l c 0 0 sz wd keys days = some true := by
 simp only [glisterlaw04_CipherCodes.j1]
 rw [if_true, if_true, hr, Option.bind_some, Same_refl c (by omega) (by omega), Option.bind_some, if_pos rfl]
 rfl
theorem CipherCodes : ∀ (a0_0 a0_1 : Int) (l0_2 : List S82) (l0_3 : List Int) (a1 : Int) (l2 : List Int), W64 a0_0 → W64 a0_1 → (∀ y ∈ l0_2, Wf82 y) → (∀ y ∈ l0_3, W64 y) → W64 a1 → (∀ y ∈ l2, W64 y) → ∃ k, glisterlaw04_CipherCodes.f k a0_0 a0_1 l0_2 l0_3 a1 l2 = some true := by
 intro sz wd keys days day l _ _ _ _ _ _
 refine ⟨100, ?_⟩
 have haw : glisterlaw04_CipherCodes.j0 100 day l true sz wd keys days = some true := by
  rw [show (100 : Nat) = 99 + 1 from rfl]
  simp only [glisterlaw04_CipherCodes.j0, if_pos]
  rfl
 unfold glisterlaw04_CipherCodes.f glisterlaw04_Thin.f
 by_cases h1 : keys.length ≤ 8
 ·rw [if_pos (by omega), Option.bind_some]
  by_cases h2 : days.length ≤ 11
  ·rw [if_pos (decide_eq_true (by omega))]
   by_cases h3 : 13 < l.length
   ·rw [show decide ((l.length : Int) > 13) = true from decide_eq_true (by omega)]; exact haw
   rw [show decide ((l.length : Int) > 13) = false from decide_eq_false (by omega), show (100 : Nat) = 99 + 1 from rfl]
   simp only [glisterlaw04_CipherCodes.j0, Bool.false_eq_true, if_false]
   rw [Book_f sz wd keys days (by omega) (by omega) (by omega)]
   simp only [Option.bind_some]
   rw [list_f (by omega)]
   simp only [Option.bind_some]
   unfold cipher_CheckBook.f
   rw [fault_f _ _ _ _ (by omega)]
   simp only [Option.bind_some, if_pos]
   by_cases hc : checkB sz wd (keys.map toK) days = 0
   ·cases hd : dayB days.length day with
    | false =>
     have hd' : inB day 0 (wrap64 ((days.length : Int) - 1)) = false := hd
     rw [code_day hc hd, Option.bind_some, if_pos hc, In_f, Option.bind_some, hd', if_neg (by decide)]
     exact codes_j1_err 98 _ _ _ _ _ _ 2 (by decide)
    | true =>
     have hd' : inB day 0 (wrap64 ((days.length : Int) - 1)) = true := hd
     by_cases hl : 10 < l.length
     ·rw [code_long hc hd hl, Option.bind_some, if_pos hc, In_f, Option.bind_some, hd', if_pos rfl, if_pos (by omega)]
      exact codes_j1_err 98 _ _ _ _ _ _ 3 (by decide)
     ·cases hp : l.all (plainB sz) with
      | false =>
       rw [code_plain hc hd (by omega) hp, Option.bind_some, if_pos hc, In_f, Option.bind_some, hd', if_pos rfl, if_neg (by omega), Plain_f _ _ _ _ _ (by omega) (by omega), hp, Option.bind_some, if_neg (by decide)]
       exact codes_j1_err 98 _ _ _ _ _ _ 2 (by decide)
      | true =>
       rw [code_ok hc hd (by omega) hp (by omega), Option.bind_some, if_pos hc, In_f, Option.bind_some, hd', if_pos rfl, if_neg (by omega), Plain_f _ _ _ _ _ (by omega) (by omega), hp, Option.bind_some, if_pos rfl, hc]
       refine codes_j1_ok 38 _ _ _ _ _ _ _ (by simp [codeL, bodyL, turnL_length]; omega) ?_
       exact codeR_ok hc hd (by omega) hp (by omega)
   ·rw [code_bad hc, Option.bind_some, if_neg hc]
    exact codes_j1_err 98 _ _ _ _ _ _ _ hc
  ·rw [if_neg (by rw [decide_eq_true_iff]; omega)]; exact haw
 ·rw [if_neg (by omega), Option.bind_some, if_neg (by decide)]; exact haw
end Go.Proofs.Ytnidgkmopocdkaa.Pure

import Derived.Test.YtnidgkmopocdkaaA12HMod
import Derived.Test.YtnidgkmopocdkaaA12P14
import Derived.Test.YtnidgkmopocdkaaA12P0
import Derived.Test.YtnidgkmopocdkaaA12P5
namespace Go.Proofs.Ytnidgkmopocdkaa.P
open Go.RowKit Go.Proofs.YtnidgkmopocdkaaW.PrintWords Go.Proofs.YtnidgkmopocdkaaW.PrintLast Go.Proofs.YtnidgkmopocdkaaW.PrintMore
set_option linter.unusedVariables false
set_option linter.unusedSimpArgs false
def readyB (sz wd : Int) (keys : List S91) (days l : List Int) : Bool := decide (keys.length ≤ 8) && (decide (days.length ≤ 11) && (decide (checkB sz wd keys days = 0) && (decide (l.length ≤ 10) && l.all (plainB sz))))
theorem ready_f {k : Nat} (sz wd : Int) (keys : List S82) (days l : List Int) (hk : 50 < k) : glisterlaw04_ready.f k sz wd keys days l = some (readyB sz wd (keys.map toK) days l) := by
 unfold glisterlaw04_ready.f glisterlaw04_Thin.f readyB
 rw [List.length_map]
 by_cases h1 : keys.length ≤ 8
 ·rw [if_pos (show (keys.length : Int) ≤ 8 by omega), Option.bind_some]
  by_cases h2 : days.length ≤ 11
  ·rw [if_pos (show decide ((days.length : Int) ≤ 11) = true from decide_eq_true (by omega)), fault_f _ _ _ _ hk, Option.bind_some]
   by_cases h3 : checkB sz wd (keys.map toK) days = 0
   ·rw [if_pos h3]
    by_cases h4 : l.length ≤ 10
    ·rw [if_pos (show (l.length : Int) ≤ 10 by omega), Plain_f _ _ _ _ _ (by omega) (by omega), Option.bind_some]
     simp [h1, h2, h3, h4]
    ·rw [if_neg (show ¬ (l.length : Int) ≤ 10 by omega)]; simp [h4]
   ·rw [if_neg h3]; simp [h3]
  ·rw [if_neg (show ¬ decide ((days.length : Int) ≤ 11) = true by rw [decide_eq_true_iff]; omega)]; simp [h2]
 ·rw [if_neg (show ¬ (keys.length : Int) ≤ 8 by omega), Option.bind_some, if_neg (by decide)]; simp [h1]
theorem ready_is {sz wd : Int} {keys : List S91} {days l : List Int} (h : readyB sz wd keys days l = true) : checkB sz wd keys days = 0 ∧ l.length ≤ 10 ∧ l.all (plainB sz) = true := by
 unfold readyB at h
 simp only [Bool.and_eq_true, decide_eq_true_iff] at h
 exact ⟨h.2.2.1, h.2.2.2.1, h.2.2.2.2⟩
end Go.Proofs.Ytnidgkmopocdkaa.P

import Derived.Test.YtnidgkmopocdkaaA13HGuess
import Derived.Test.YtnidgkmopocdkaaA13P17
namespace Go.Proofs.Ytnidgkmopocdkaa.P
open Go.RowKit Go.Proofs.YtnidgkmopocdkaaW.PrintWords Go.Proofs.YtnidgkmopocdkaaW.PrintLast Go.Proofs.YtnidgkmopocdkaaW.PrintMore
set_option linter.unusedVariables false
set_option linter.unusedSimpArgs false
theorem AskFault_l0 (sz wd : Int) (keys : List S82) (days codes : List Int) (gs : List S85) (hz : 13 ≤ sz ∧ sz ≤ 41) (hg : gs.length ≤ 1000) : ∀ (d k i : Nat), i + d = gs.length → d < k → glisterref04_AskFault.l0 k codes gs (i : Int) sz wd keys days = some (if (gs.drop i).all (fun g => fineB sz codes.length (toG g)) = false then 2 else 0)
 | 0, k, i, hd, h => by
  obtain ⟨k, rfl, _⟩ := succ_of h
  simp only [glisterref04_AskFault.l0]
  rw [if_neg (by omega), List.drop_eq_nil_of_le (by omega)]
  simp
 | d + 1, k, i, hd, h => by
  obtain ⟨k, rfl, _⟩ := succ_of h
  have hi : i < gs.length := by omega
  simp only [glisterref04_AskFault.l0]
  have := AskFault_l0 sz wd keys days codes gs hz hg d k (i + 1) (by omega) (by omega)
  rw [show (((i + 1 : Nat)) : Int) = (i : Int) + 1 by omega] at this
  rw [if_pos (by omega), if_pos (by omega), rd85_at hi, In_f, In_f, wrap_of (show -9223372036854775808 ≤ (i : Int) + 1 by omega) (by omega)]
  simp only [Option.bind_some]
  rw [this, drop_at hi, List.all_cons, show fineB sz codes.length (toG gs[i]) = (inB gs[i].f0 0 (wrap64 ((codes.length : Int) - 1)) && inB gs[i].f1 0 (wrap64 (sz - 1))) from rfl]
  cases inB gs[i].f0 0 (wrap64 ((codes.length : Int) - 1)) <;> cases inB gs[i].f1 0 (wrap64 (sz - 1)) <;> simp
theorem asked_f {k : Nat} (sz wd : Int) (keys : List S82) (days codes : List Int) (gs : List S85) (hc : codes.length ≤ 100) (hg : gs.length ≤ 100) (hk : 150 < k) : glisterlaw04_asked.f k sz wd keys days codes gs = some (askedV sz wd (keys.map toK) days codes (gs.map toG)) := by
 unfold glisterlaw04_asked.f askedV glisterref04_AskFault.f
 rw [fault_f _ _ _ _ (by omega), Option.bind_some]
 by_cases h0 : checkB sz wd (keys.map toK) days = 0
 ·have g := good_of h0
  rw [if_pos h0, if_neg (show ¬ checkB sz wd (keys.map toK) days ≠ 0 from fun h => h h0)]
  obtain ⟨k, rfl, _⟩ := succ_of hk
  by_cases h1 : 10 < codes.length
  ·rw [if_pos (by omega), if_pos h1]
   simp only [glisterref04_AskFault.j0, if_true, Option.bind_some]
  rw [if_neg (by omega), if_neg h1, List.length_map]
  by_cases h2 : 6 < gs.length
  ·rw [show decide ((gs.length : Int) > 6) = true from decide_eq_true (by omega), if_pos h2]
   simp only [glisterref04_AskFault.j0, if_true, Option.bind_some]
  rw [show decide ((gs.length : Int) > 6) = false from decide_eq_false (by omega), if_neg h2]
  simp only [glisterref04_AskFault.j0, Bool.false_eq_true, if_false]
  rw [Plain_f _ _ _ _ _ (by omega) (by omega), Option.bind_some]
  cases hp : codes.all (plainB sz) with
  | false => simp
  | true =>
   have := AskFault_l0 sz wd keys days codes gs ⟨g.s0, g.s1⟩ (by omega) gs.length k 0 (by omega) (by omega)
   rw [List.drop_zero, show ((0 : Nat) : Int) = 0 from rfl] at this
   rw [if_pos rfl, this, Option.bind_some, List.all_map]
   rfl
 ·rw [if_neg h0, if_pos h0]
end Go.Proofs.Ytnidgkmopocdkaa.P

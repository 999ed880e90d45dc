import Derived.Test.YtnidgkmopocdkaaA1P0
import Derived.Test.YtnidgkmopocdkaaA1P4
import Derived.Test.YtnidgkmopocdkaaA1P5
namespace Go.Proofs.Ytnidgkmopocdkaa.P
open Go.RowKit Go.Proofs.YtnidgkmopocdkaaW.PrintWords Go.Proofs.YtnidgkmopocdkaaW.PrintLast Go.Proofs.YtnidgkmopocdkaaW.PrintMore
attribute [local go_sem] max2_int min2_int max_two min_two max_three min_three max_four min_four   -- for this text's walks alone
set_option linter.unusedVariables false
set_option linter.unusedSimpArgs false
mutual
def glisterref04_AskFault.j0 : Nat → List Int → List (S85) → Bool → Int → Int → List (S82) → List Int → Option (Int)
 | 0, _, _, _, _, _, _, _ => none
 | k + 1, x1, x2, x15, x842000, x842001, x842002, x842003 => if x15 = true then (some 3) else ((glisterref04_Plain.f k x842000 x842001 x842002 x842003 x1).bind fun t842 => (if t842 = true then (glisterref04_AskFault.l0 k x1 x2 0 x842000 x842001 x842002 x842003) else (some 2)))
def glisterref04_AskFault.l0 : Nat → List Int → List (S85) → Int → Int → Int → List (S82) → List Int → Option (Int)
 | 0, _, _, _, _, _, _, _ => none
 | k + 1, x1, x2, x7, x842000, x842001, x842002, x842003 => if x7 < (x2.length : Int) then (if 0 ≤ x7 then ((glisterref04_In.f ((rd_T85 x2 x7).f0) 0 (wrap64 ((x1.length : Int) - 1))).bind fun t844 => (if t844 = true then ((glisterref04_In.f ((rd_T85 x2 x7).f1) 0 (wrap64 (x842000 - 1))).bind fun t846 => (if t846 = true then (glisterref04_AskFault.l0 k x1 x2 (wrap64 (x7 + 1)) x842000 x842001 x842002 x842003) else (some 2))) else (some 2))) else (none)) else (some 0)
end
end Go.Proofs.Ytnidgkmopocdkaa.P

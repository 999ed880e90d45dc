import Derived.Test.YtnidgkmopocdkaaA1P0
import Derived.Test.YtnidgkmopocdkaaA1P4
namespace Go.Proofs.Ytnidgkmopocdkaa.P
open Go.RowKit Go.Proofs.YtnidgkmopocdkaaW.PrintWords Go.Proofs.YtnidgkmopocdkaaW.PrintLast Go.Proofs.YtnidgkmopocdkaaW.PrintMore
attribute [local go_sem] max2_int min2_int max_two min_two max_three min_three max_four min_four   -- for this text's walks alone
set_option linter.unusedVariables false
set_option linter.unusedSimpArgs false
def glisterlaw04_Losses.l0 : Nat → List (S58) → List (S110) → Int → Option ((List (S110)))
 | 0, _, _, _ => none
 | k + 1, x0, x3, x4 => if x4 < (x0.length : Int) then (if 0 ≤ x4 then (if x3.length < 8796093022208 then (glisterlaw04_Losses.l0 k x0 (x3 ++ [(⟨(rd_T58 x0 x4).f0, (rd_T58 x0 x4).f1⟩ : S110)]) (wrap64 (x4 + 1))) else (none)) else (none)) else (some x3)
def glisterlaw04_Losses.T5 : Bool × List (List Nat × List Nat) := (true, [([], []), ([], []), ([], []), ([1, 2], [1, 2]), ([3], [3]), ([4], [4]), ([], []), ([], []), ([6, 7], [6, 7]), ([8], [8]), ([9], [9]), ([5, 10], [5, 10]), ([11], [11]), ([0, 12], [0, 12]), ([13, 13, 0, 1, 2, 3, 4, 5, 6, 7, 8, 9, 10, 11, 12, 13], [0, 13])])
def glisterlaw04_Losses.B5 : List Nat := [0, 0, 0, 6, 14, 30, 0, 0, 192, 448, 960, 2046, 4094, 8191, 16383]
def glisterref04_LossFault.l0 : Nat → List (S58) → Int → Int → Int → List (S82) → List Int → Option (Int)
 | 0, _, _, _, _, _, _ => none
 | k + 1, x1, x5, x361000, x361001, x361002, x361003 => if x5 < (x1.length : Int) then (if 0 ≤ x5 then ((glisterref04_In.f ((rd_T58 x1 x5).f0) 0 (wrap64 ((x361002.length : Int) - 1))).bind fun t362 => (if t362 = true then ((glisterref04_In.f ((rd_T58 x1 x5).f1) 0 (wrap64 ((x361003.length : Int) - 1))).bind fun t364 => (if t364 = true then (glisterref04_LossFault.l0 k x1 (wrap64 (x5 + 1)) x361000 x361001 x361002 x361003) else (some 2))) else (some 2))) else (none)) else (some 0)
def glisterref04_Had.l0 : Nat → List (S58) → Int → Int → Int → Option (Bool)
 | 0, _, _, _, _ => none
 | k + 1, x0, x1, x2, x7 => if x7 < (x0.length : Int) then (if 0 ≤ x7 then (if ((rd_T58 x0 x7).f0) = x1 then (if ((rd_T58 x0 x7).f1) ≤ x2 then (some true) else (glisterref04_Had.l0 k x0 x1 x2 (wrap64 (x7 + 1)))) else (glisterref04_Had.l0 k x0 x1 x2 (wrap64 (x7 + 1)))) else (none)) else (some false)
def glisterref04_Had.f (k : Nat) (l0 : List (S58)) (a1 : Int) (a2 : Int) : Option (Bool) := glisterref04_Had.l0 k l0 a1 a2 0
mutual
def glisterref04_Exposed.l0 : Nat → List (S58) → List Int → Int → Int → Int → List (S82) → List Int → Option (List Int)
 | 0, _, _, _, _, _, _, _ => none
 | k + 1, x1, x5, x6, x371000, x371001, x371002, x371003 => if x6 < (x371003.length : Int) then (glisterref04_Exposed.l1 k x1 x5 x6 (-1) (wrap64 ((x371003.length : Int) - 1)) x371000 x371001 x371002 x371003) else (some x5)
def glisterref04_Exposed.l1 : Nat → List (S58) → List Int → Int → Int → Int → Int → Int → List (S82) → List Int → Option (List Int)
 | 0, _, _, _, _, _, _, _, _, _ => none
 | k + 1, x1, x5, x6, x7, x8, x371000, x371001, x371002, x371003 => if x8 ≥ x6 then (if 0 ≤ x6 then (if x6 < (x371003.length : Int) then ((glisterref04_Had.f k x1 (rd x371003 x6) x8).bind fun t372 => (if t372 = true then (glisterref04_Exposed.l1 k x1 x5 x6 x8 (wrap64 (x8 - 1)) x371000 x371001 x371002 x371003) else (glisterref04_Exposed.l1 k x1 x5 x6 x7 (wrap64 (x8 - 1)) x371000 x371001 x371002 x371003))) else (none)) else (none)) else (if x5.length < 17592186044416 then (glisterref04_Exposed.l0 k x1 (x5 ++ [x7]) (wrap64 (x6 + 1)) x371000 x371001 x371002 x371003) else (none))
end
end Go.Proofs.Ytnidgkmopocdkaa.P

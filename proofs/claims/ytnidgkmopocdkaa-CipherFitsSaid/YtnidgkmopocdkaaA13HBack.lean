import Derived.Test.YtnidgkmopocdkaaA13HMod
import Derived.Test.YtnidgkmopocdkaaA13P14
import Derived.Test.YtnidgkmopocdkaaA13P0
import Derived.Test.YtnidgkmopocdkaaA13P5
import Derived.Test.YtnidgkmopocdkaaA13P6
namespace Go.Proofs.Ytnidgkmopocdkaa.P
open Go.RowKit Go.Proofs.YtnidgkmopocdkaaW.PrintWords Go.Proofs.YtnidgkmopocdkaaW.PrintLast Go.Proofs.YtnidgkmopocdkaaW.PrintMore
set_option linter.unusedVariables false
set_option linter.unusedSimpArgs false
def readyB (sz wd : Int) (keys : List S91) (days l : List Int) : Bool := decide (keys.length ≤ 8) && (decide (days.length ≤ 11) && (decide (checkB sz wd keys days = 0) && (decide (l.length ≤ 10) && l.all (plainB sz))))
end Go.Proofs.Ytnidgkmopocdkaa.P

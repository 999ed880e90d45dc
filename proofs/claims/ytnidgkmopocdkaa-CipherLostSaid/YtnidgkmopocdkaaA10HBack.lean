import Derived.Test.YtnidgkmopocdkaaA10HPure2
import Derived.Test.YtnidgkmopocdkaaA10HTurn2
import Derived.Test.YtnidgkmopocdkaaA10HWords
import Derived.Test.YtnidgkmopocdkaaA10P0
import Derived.Test.YtnidgkmopocdkaaA10P4
import Derived.Test.YtnidgkmopocdkaaA10P14
namespace Go.Proofs.Ytnidgkmopocdkaa.P
open Go.RowKit Go.Proofs.YtnidgkmopocdkaaW.PrintWords Go.Proofs.YtnidgkmopocdkaaW.PrintLast Go.Proofs.YtnidgkmopocdkaaW.PrintMore
set_option linter.unusedVariables false
set_option linter.unusedSimpArgs false
def readyB (sz wd : Int) (keys : List S91) (days l : List Int) : Bool := decide (keys.length ≤ 8) && (decide (days.length ≤ 11) && (decide (checkB sz wd keys days = 0) && (decide (l.length ≤ 10) && l.all (plainB sz))))
end Go.Proofs.Ytnidgkmopocdkaa.P

import Derived.Test.YtnidgkmopocdkaaA9HPure2
import Derived.Test.YtnidgkmopocdkaaA9HTurn2
import Derived.Test.YtnidgkmopocdkaaA9HWords
import Derived.Test.YtnidgkmopocdkaaA9P0
import Derived.Test.YtnidgkmopocdkaaA9P4
import Derived.Test.YtnidgkmopocdkaaA9P14
namespace Go.Proofs.Ytnidgkmopocdkaa.P
open Go.RowKit Go.Proofs.YtnidgkmopocdkaaW.PrintWords Go.Proofs.YtnidgkmopocdkaaW.PrintLast Go.Proofs.YtnidgkmopocdkaaW.PrintMore
set_option linter.unusedVariables false
set_option linter.unusedSimpArgs false
def readyB (sz wd : Int) (keys : List S91) (days l : List Int) : Bool := decide (keys.length ≤ 8) && (decide (days.length ≤ 11) && (decide (checkB sz wd keys days = 0) && (decide (l.length ≤ 10) && l.all (plainB sz))))
end Go.Proofs.Ytnidgkmopocdkaa.P

import Derived.Test.YtnidgkmopocdkaaA13HPure2
import Derived.Test.YtnidgkmopocdkaaA13HPlan
import Derived.Test.YtnidgkmopocdkaaA13P0
import Derived.Test.YtnidgkmopocdkaaA13P4
import Derived.Test.YtnidgkmopocdkaaA13P15
import Derived.Test.YtnidgkmopocdkaaA13P17
namespace Go.Proofs.Ytnidgkmopocdkaa.P
open Go.RowKit Go.Proofs.YtnidgkmopocdkaaW.PrintWords Go.Proofs.YtnidgkmopocdkaaW.PrintLast Go.Proofs.YtnidgkmopocdkaaW.PrintMore
set_option linter.unusedVariables false
set_option linter.unusedSimpArgs false
def anyB (key d : Int) (l : List S58) : Bool := l.any fun x => decide (x.f0 = key) && decide (x.f1 ≤ d)
end Go.Proofs.Ytnidgkmopocdkaa.P

/- Words that the texts of this claim speak of: cut down by this session's own program (wip/prune_w.py). Conditions stand in each theorem. -/
import Derived.Test.YtocmifmelgghdaaWInv
import Derived.Test.YtocmifmelgghdaaWFootNe
namespace Go.Proofs.YtocmifmelgghdaaW.PrintWords
open Go.RowKit
end Go.Proofs.YtocmifmelgghdaaW.PrintWords
namespace Go.Proofs.YtocmifmelgghdaaW.PrintLast
section
variable {ops : Array Oper} {a : Act} {o og : Oper} {g : Nat} {t : Tmp} {u : Bool}
end
end Go.Proofs.YtocmifmelgghdaaW.PrintLast

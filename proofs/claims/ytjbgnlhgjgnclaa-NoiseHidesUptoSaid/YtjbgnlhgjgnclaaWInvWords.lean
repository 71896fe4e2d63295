/- Words that the texts of this claim speak of: cut down by this session's own program (wip/prune_w.py). Conditions stand in each theorem. -/
import Derived.Test.YtjbgnlhgjgnclaaWInv
import Derived.Test.YtjbgnlhgjgnclaaWFootNe
namespace Go.Proofs.YtjbgnlhgjgnclaaW.PrintWords
open Go.RowKit
end Go.Proofs.YtjbgnlhgjgnclaaW.PrintWords
namespace Go.Proofs.YtjbgnlhgjgnclaaW.PrintLast
section
variable {ops : Array Oper} {a : Act} {o og : Oper} {g : Nat} {t : Tmp} {u : Bool}
end
end Go.Proofs.YtjbgnlhgjgnclaaW.PrintLast

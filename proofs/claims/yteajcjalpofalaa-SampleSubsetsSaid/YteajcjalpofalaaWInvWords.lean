/- Words that the texts of this claim speak of: cut down by this session's own program (wip/prune_w.py). Conditions stand in each theorem. -/
import Derived.Test.YteajcjalpofalaaWInv
import Derived.Test.YteajcjalpofalaaWFootNe
namespace Go.Proofs.YteajcjalpofalaaW.PrintWords
open Go.RowKit
end Go.Proofs.YteajcjalpofalaaW.PrintWords
namespace Go.Proofs.YteajcjalpofalaaW.PrintLast
section
variable {ops : Array Oper} {a : Act} {o og : Oper} {g : Nat} {t : Tmp} {u : Bool}
end
end Go.Proofs.YteajcjalpofalaaW.PrintLast

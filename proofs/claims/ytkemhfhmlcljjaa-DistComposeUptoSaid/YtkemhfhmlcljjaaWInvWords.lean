/- Words that the texts of this claim speak of: cut down by this session's own program (wip/prune_w.py). Conditions stand in each theorem. -/
import Derived.Test.YtkemhfhmlcljjaaWInv
import Derived.Test.YtkemhfhmlcljjaaWFootNe
namespace Go.Proofs.YtkemhfhmlcljjaaW.PrintWords
open Go.RowKit
end Go.Proofs.YtkemhfhmlcljjaaW.PrintWords
namespace Go.Proofs.YtkemhfhmlcljjaaW.PrintLast
section
variable {ops : Array Oper} {a : Act} {o og : Oper} {g : Nat} {t : Tmp} {u : Bool}
end
end Go.Proofs.YtkemhfhmlcljjaaW.PrintLast

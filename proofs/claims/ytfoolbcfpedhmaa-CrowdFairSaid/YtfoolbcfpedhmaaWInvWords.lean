/- Words that the texts of this claim speak of: cut down by this session's own program (wip/prune_w.py). Conditions stand in each theorem. -/
import Derived.Test.YtfoolbcfpedhmaaWInv
import Derived.Test.YtfoolbcfpedhmaaWFootNe
namespace Go.Proofs.YtfoolbcfpedhmaaW.PrintWords
open Go.RowKit
end Go.Proofs.YtfoolbcfpedhmaaW.PrintWords
namespace Go.Proofs.YtfoolbcfpedhmaaW.PrintLast
section
variable {ops : Array Oper} {a : Act} {o og : Oper} {g : Nat} {t : Tmp} {u : Bool}
end
end Go.Proofs.YtfoolbcfpedhmaaW.PrintLast

/- Words that the texts of this claim speak of: cut down by this session's own program (wip/prune_w.py). Conditions stand in each theorem. -/
import Derived.Test.YtdfeidpkdbleaaaWInv
import Derived.Test.YtdfeidpkdbleaaaWFootNe
namespace Go.Proofs.YtdfeidpkdbleaaaW.PrintWords
open Go.RowKit
end Go.Proofs.YtdfeidpkdbleaaaW.PrintWords
namespace Go.Proofs.YtdfeidpkdbleaaaW.PrintLast
section
variable {ops : Array Oper} {a : Act} {o og : Oper} {g : Nat} {t : Tmp} {u : Bool}
end
end Go.Proofs.YtdfeidpkdbleaaaW.PrintLast

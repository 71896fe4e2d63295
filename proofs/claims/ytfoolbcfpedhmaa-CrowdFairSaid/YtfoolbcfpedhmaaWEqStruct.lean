/- Words that the texts of this claim speak of: cut down by this session's own program (wip/prune_w.py). Conditions stand in each theorem. -/
import Derived.Test.YtfoolbcfpedhmaaWWords
import Derived.Laws.StructEq
namespace Go.Proofs.YtfoolbcfpedhmaaW.PrintWords
open Go.RowKit
section
variable {P : Program} {d : Nat} {xs ys : Array Value} {f : Field} {fs : List Field} {a b : Value} {r s : Bool} {w : World}
end
end Go.Proofs.YtfoolbcfpedhmaaW.PrintWords

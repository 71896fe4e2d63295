/- Words that the texts of this claim speak of: cut down by this session's own program (wip/prune_w.py). Conditions stand in each theorem. -/
import Derived.Test.YtkemhfhmlcljjaaWWords
import Derived.Laws.StructEq
namespace Go.Proofs.YtkemhfhmlcljjaaW.PrintWords
open Go.RowKit
section
variable {P : Program} {d : Nat} {xs ys : Array Value} {f : Field} {fs : List Field} {a b : Value} {r s : Bool} {w : World}
end
end Go.Proofs.YtkemhfhmlcljjaaW.PrintWords

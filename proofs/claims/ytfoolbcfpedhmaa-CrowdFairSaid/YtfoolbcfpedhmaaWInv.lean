/- Words that the texts of this claim speak of: cut down by this session's own program (wip/prune_w.py). Conditions stand in each theorem. -/
import Derived.Test.YtfoolbcfpedhmaaWTab
namespace Go.Proofs.YtfoolbcfpedhmaaW.PrintLast
def up (b : Nat → Bool) (i : Nat) : Nat → Bool := fun j => if j = i then true else b j
section
variable {P : Program} {ops : Array Oper} {Q : Exit → Act → World → Prop} {md : Region.Mode} {T : Bool × List (List Nat × List Nat)} {B : List Nat} {O : List Nat} {b : Nat → Bool} {i j n : Nat}
end
end Go.Proofs.YtfoolbcfpedhmaaW.PrintLast

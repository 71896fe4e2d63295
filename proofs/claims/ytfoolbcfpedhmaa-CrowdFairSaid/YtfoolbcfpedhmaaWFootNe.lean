/- Words that the texts of this claim speak of: cut down by this session's own program (wip/prune_w.py). Conditions stand in each theorem. -/
import Derived.Test.YtfoolbcfpedhmaaWN
namespace Go.Proofs.YtfoolbcfpedhmaaW.PrintWords
open Go.RowKit
namespace Kd
section
variable {α : Type} {d : Kd α} {W : World} {g n : Nat} {S ok : Nat → Prop} {A : Option Addr} {ad : Addr} {xs : List α}
end
end Kd
end Go.Proofs.YtfoolbcfpedhmaaW.PrintWords

/-
  No cell of these rows narrows 'for every input' (looked for: loops, veiled, ifaces, maps, wideKeys, modest, calm, conditions, laid).
  DERIVED. THE GIVEN ROWS OF THIS SEAT. 3 by the template 'for every input the law returns true; each argument reads behind the call as it read before'; 0 by the template 'total and deterministic' (their statements: YtfoolbcfpedhmaaTotals.lean).
  GIVEN WITH THE SEED: the statements are not yours to turn. If you find one false, say at which input.
  Laid BY PROGRAM, IN A SANDBOX (cutbox-rows.mjs): the forced cells as the released guide's own fill.sh prints them over the translation 06116b58d083fefa… (all of the seat's roots in one cut). By AI agents, Wed Nov 11 2026. No macro, syntax, notation, axiom, sorry.
-/
import Derived.Test.YtfoolbcfpedhmaaChecked
import GoSem.Claim
import GoSem.ClaimJoined
import GoSem.ClaimMapViews
import Derived.JoinedTies
import Derived.KernelRfl
namespace Go.Proofs.Ytfoolbcfpedhmaa
/- THE CELL 'sum', in the pinned program and in every row, IS THE sha256 OF THE DUMP (.gsa) THAT YtfoolbcfpedhmaaProg.lean LOADS. Nothing in Lean hashes anything: it is a label: what it is worth is what the hold of that sum in a sandbox is worth. -/
noncomputable def Try.pinned : Pinned := { name := "ytfoolbcfpedhmaa", sum := "06116b58d083fefae6c93a6f5ad03bc8cd550628739d0d5a8649e4f7b0be0cd6", checked := Try.checked }
namespace Rows
def none {H : Type} : Left H := { results := [], args := [] }

/-- 'hushlaw13.CrowdHears': WHATEVER THE INPUT: true; the input reads as it did. -/
def crowdHearsSpec : ChangeSpec := { name := "crowdHears", fn := fun _ => fun
  | [d1, d2, d3, d4] => { results := [.lit (.bool true)], args := [d1, d2, d3, d4] }
  | _ => none }
def crowdHearsRow : OpenClaim := { program := "ytfoolbcfpedhmaa", sum := "06116b58d083fefae6c93a6f5ad03bc8cd550628739d0d5a8649e4f7b0be0cd6", func := "hushhouse/hushlaw13.CrowdHears", spec := "crowdHears", unfollowed := true, recurses := true, apart := false }
def CrowdHearsSaid : Prop := crowdHearsRow.holds Try.pinned (OpenSpec.ofChange crowdHearsSpec)

/-- ITS FALSE NEIGHBOUR: 'it returns false'. Refute it at one input. -/
def crowdHearsWrong : ChangeSpec := { name := "crowdHears", fn := fun _ => fun
  | [d1, d2, d3, d4] => { results := [.lit (.bool false)], args := [d1, d2, d3, d4] }
  | _ => none }
def CrowdHearsWrongFalsely : Prop := crowdHearsRow.holds Try.pinned (OpenSpec.ofChange crowdHearsWrong)

/-- 'hushlaw13.CrowdFair': WHATEVER THE INPUT: true; the input reads as it did. -/
def crowdFairSpec : ChangeSpec := { name := "crowdFair", fn := fun _ => fun
  | [d1, d2, d3] => { results := [.lit (.bool true)], args := [d1, d2, d3] }
  | _ => none }
def crowdFairRow : OpenClaim := { program := "ytfoolbcfpedhmaa", sum := "06116b58d083fefae6c93a6f5ad03bc8cd550628739d0d5a8649e4f7b0be0cd6", func := "hushhouse/hushlaw13.CrowdFair", spec := "crowdFair", unfollowed := true, recurses := true, apart := false }
def CrowdFairSaid : Prop := crowdFairRow.holds Try.pinned (OpenSpec.ofChange crowdFairSpec)

/-- ITS FALSE NEIGHBOUR: 'it returns false'. Refute it at one input. -/
def crowdFairWrong : ChangeSpec := { name := "crowdFair", fn := fun _ => fun
  | [d1, d2, d3] => { results := [.lit (.bool false)], args := [d1, d2, d3] }
  | _ => none }
def CrowdFairWrongFalsely : Prop := crowdFairRow.holds Try.pinned (OpenSpec.ofChange crowdFairWrong)

/-- 'hushlaw13.CrowdKeeps': WHATEVER THE INPUT: true; the input reads as it did. -/
def crowdKeepsSpec : ChangeSpec := { name := "crowdKeeps", fn := fun _ => fun
  | [d1, d2, d3, d4, d5] => { results := [.lit (.bool true)], args := [d1, d2, d3, d4, d5] }
  | _ => none }
def crowdKeepsRow : OpenClaim := { program := "ytfoolbcfpedhmaa", sum := "06116b58d083fefae6c93a6f5ad03bc8cd550628739d0d5a8649e4f7b0be0cd6", func := "hushhouse/hushlaw13.CrowdKeeps", spec := "crowdKeeps", unfollowed := true, recurses := true, apart := false }
def CrowdKeepsSaid : Prop := crowdKeepsRow.holds Try.pinned (OpenSpec.ofChange crowdKeepsSpec)

/-- ITS FALSE NEIGHBOUR: 'it returns false'. Refute it at one input. -/
def crowdKeepsWrong : ChangeSpec := { name := "crowdKeeps", fn := fun _ => fun
  | [d1, d2, d3, d4, d5] => { results := [.lit (.bool false)], args := [d1, d2, d3, d4, d5] }
  | _ => none }
def CrowdKeepsWrongFalsely : Prop := crowdKeepsRow.holds Try.pinned (OpenSpec.ofChange crowdKeepsWrong)

/- THE SECOND FORM. 'bulk': how many values and letters a reading holds, each counted each time it is reached (what is shared counts as often as it is met; a slice's spare places count too). A statement '..UptoSaid' is the law's where the arguments, and the package variables that the reading takes, are together of bulk at most 1048576: NARROWER than '..Said'. Prove '..Said' where nothing that the law and all that it calls make is longer than what came in: it says more and counts as full. Else prove '..UptoSaid'. A law counts once. -/
mutual
def uptoBulk {H : Type} : DataW H → Nat
  | .lit (.string bytes) => bytes.length + 1
  | .lit _ => 1
  | .nil => 1
  | .ptr d => uptoBulk d + 1
  | .slice elems spare => uptoBulkAll elems + uptoBulkAll spare + 1
  | .agg parts => uptoBulkAll parts + 1
  | .iface _ d => uptoBulk d + 1
  | .map entries => uptoBulkEntries entries + 1
  | .held _ => 1
def uptoBulkAll {H : Type} : List (DataW H) → Nat
  | [] => 0
  | d :: r => uptoBulk d + uptoBulkAll r
def uptoBulkEntries {H : Type} : List (Lit × DataW H) → Nat
  | [] => 0
  | x :: r => uptoBulkEntry x + uptoBulkEntries r
def uptoBulkEntry {H : Type} : Lit × DataW H → Nat
  | (.string bytes, d) => bytes.length + uptoBulk d + 1
  | (_, d) => uptoBulk d + 1
 end
def uptoSmall : (H : Type) → List (DataW H) → Bool := fun _ ds => decide (uptoBulkAll ds ≤ 1048576)
def OpenSpec.upto (s : _root_.Go.ChangeSpec) : _root_.Go.OpenSpec := { _root_.Go.OpenSpec.ofChange s with cond := some uptoSmall }

/-- 'hushlaw13.CrowdHears', WHERE WHAT IT READS IS OF BULK AT MOST 1048576: true; the input reads as it did. -/
def crowdHearsUptoRow : OpenClaim := { program := "ytfoolbcfpedhmaa", sum := "06116b58d083fefae6c93a6f5ad03bc8cd550628739d0d5a8649e4f7b0be0cd6", func := "hushhouse/hushlaw13.CrowdHears", spec := "crowdHears", unfollowed := true, recurses := true, apart := false, narrowed := true }
def CrowdHearsUptoSaid : Prop := crowdHearsUptoRow.holds Try.pinned (OpenSpec.upto crowdHearsSpec)

/-- 'hushlaw13.CrowdFair', WHERE WHAT IT READS IS OF BULK AT MOST 1048576: true; the input reads as it did. -/
def crowdFairUptoRow : OpenClaim := { program := "ytfoolbcfpedhmaa", sum := "06116b58d083fefae6c93a6f5ad03bc8cd550628739d0d5a8649e4f7b0be0cd6", func := "hushhouse/hushlaw13.CrowdFair", spec := "crowdFair", unfollowed := true, recurses := true, apart := false, narrowed := true }
def CrowdFairUptoSaid : Prop := crowdFairUptoRow.holds Try.pinned (OpenSpec.upto crowdFairSpec)

/-- 'hushlaw13.CrowdKeeps', WHERE WHAT IT READS IS OF BULK AT MOST 1048576: true; the input reads as it did. -/
def crowdKeepsUptoRow : OpenClaim := { program := "ytfoolbcfpedhmaa", sum := "06116b58d083fefae6c93a6f5ad03bc8cd550628739d0d5a8649e4f7b0be0cd6", func := "hushhouse/hushlaw13.CrowdKeeps", spec := "crowdKeeps", unfollowed := true, recurses := true, apart := false, narrowed := true }
def CrowdKeepsUptoSaid : Prop := crowdKeepsUptoRow.holds Try.pinned (OpenSpec.upto crowdKeepsSpec)

end Rows
end Go.Proofs.Ytfoolbcfpedhmaa

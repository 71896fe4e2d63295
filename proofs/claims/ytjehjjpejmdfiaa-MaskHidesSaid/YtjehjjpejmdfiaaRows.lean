/-
  No cell of these rows narrows 'for every input' (looked for: loops, veiled, ifaces, maps, wideKeys, modest, calm, conditions, laid).
  DERIVED. THE GIVEN ROWS OF THIS SEAT. 3 by the template 'for every input the law returns true; each argument reads behind the call as it read before'; 0 by the template 'total and deterministic' (their statements: YtjehjjpejmdfiaaTotals.lean).
  GIVEN WITH THE SEED: the statements are not yours to turn. If you find one false, say at which input.
  Laid BY PROGRAM, IN A SANDBOX (cutbox-rows.mjs): the forced cells as the released guide's own fill.sh prints them over the translation 8ced57483abf6fef… (all of the seat's roots in one cut). By AI agents, Wed Nov 11 2026. No macro, syntax, notation, axiom, sorry.
-/
import Derived.Test.YtjehjjpejmdfiaaChecked
import GoSem.Claim
import GoSem.ClaimJoined
import GoSem.ClaimMapViews
import Derived.JoinedTies
import Derived.KernelRfl
namespace Go.Proofs.Ytjehjjpejmdfiaa
/- THE CELL 'sum', in the pinned program and in every row, IS THE sha256 OF THE DUMP (.gsa) THAT YtjehjjpejmdfiaaProg.lean LOADS. Nothing in Lean hashes anything: it is a label: what it is worth is what the hold of that sum in a sandbox is worth. -/
noncomputable def Try.pinned : Pinned := { name := "ytjehjjpejmdfiaa", sum := "8ced57483abf6fef75ba3053326ffdc0c26875cdd5754c952186512f44bc92da", checked := Try.checked }
namespace Rows
def none {H : Type} : Left H := { results := [], args := [] }

/-- 'hushlaw12.MaskHides': WHATEVER THE INPUT: true; the input reads as it did. -/
def maskHidesSpec : ChangeSpec := { name := "maskHides", fn := fun _ => fun
  | [d1, d2, d3, d4] => { results := [.lit (.bool true)], args := [d1, d2, d3, d4] }
  | _ => none }
def maskHidesRow : OpenClaim := { program := "ytjehjjpejmdfiaa", sum := "8ced57483abf6fef75ba3053326ffdc0c26875cdd5754c952186512f44bc92da", func := "hushhouse/hushlaw12.MaskHides", spec := "maskHides", unfollowed := true, recurses := true, apart := false }
def MaskHidesSaid : Prop := maskHidesRow.holds Try.pinned (OpenSpec.ofChange maskHidesSpec)

/-- ITS FALSE NEIGHBOUR: 'it returns false'. Refute it at one input. -/
def maskHidesWrong : ChangeSpec := { name := "maskHides", fn := fun _ => fun
  | [d1, d2, d3, d4] => { results := [.lit (.bool false)], args := [d1, d2, d3, d4] }
  | _ => none }
def MaskHidesWrongFalsely : Prop := maskHidesRow.holds Try.pinned (OpenSpec.ofChange maskHidesWrong)

/-- 'hushlaw12.MaskSays': WHATEVER THE INPUT: true; the input reads as it did. -/
def maskSaysSpec : ChangeSpec := { name := "maskSays", fn := fun _ => fun
  | [d1, d2, d3, d4, d5, d6, d7] => { results := [.lit (.bool true)], args := [d1, d2, d3, d4, d5, d6, d7] }
  | _ => none }
def maskSaysRow : OpenClaim := { program := "ytjehjjpejmdfiaa", sum := "8ced57483abf6fef75ba3053326ffdc0c26875cdd5754c952186512f44bc92da", func := "hushhouse/hushlaw12.MaskSays", spec := "maskSays", unfollowed := true, recurses := true, apart := false }
def MaskSaysSaid : Prop := maskSaysRow.holds Try.pinned (OpenSpec.ofChange maskSaysSpec)

/-- ITS FALSE NEIGHBOUR: 'it returns false'. Refute it at one input. -/
def maskSaysWrong : ChangeSpec := { name := "maskSays", fn := fun _ => fun
  | [d1, d2, d3, d4, d5, d6, d7] => { results := [.lit (.bool false)], args := [d1, d2, d3, d4, d5, d6, d7] }
  | _ => none }
def MaskSaysWrongFalsely : Prop := maskSaysRow.holds Try.pinned (OpenSpec.ofChange maskSaysWrong)

/-- 'hushlaw12.MaskSums': WHATEVER THE INPUT: true; the input reads as it did. -/
def maskSumsSpec : ChangeSpec := { name := "maskSums", fn := fun _ => fun
  | [d1, d2, d3, d4] => { results := [.lit (.bool true)], args := [d1, d2, d3, d4] }
  | _ => none }
def maskSumsRow : OpenClaim := { program := "ytjehjjpejmdfiaa", sum := "8ced57483abf6fef75ba3053326ffdc0c26875cdd5754c952186512f44bc92da", func := "hushhouse/hushlaw12.MaskSums", spec := "maskSums", unfollowed := true, recurses := true, apart := false }
def MaskSumsSaid : Prop := maskSumsRow.holds Try.pinned (OpenSpec.ofChange maskSumsSpec)

/-- ITS FALSE NEIGHBOUR: 'it returns false'. Refute it at one input. -/
def maskSumsWrong : ChangeSpec := { name := "maskSums", fn := fun _ => fun
  | [d1, d2, d3, d4] => { results := [.lit (.bool false)], args := [d1, d2, d3, d4] }
  | _ => none }
def MaskSumsWrongFalsely : Prop := maskSumsRow.holds Try.pinned (OpenSpec.ofChange maskSumsWrong)

/- THE SECOND FORM. 'bulk': how many values and letters a reading holds, each counted each time it is reached (what is shared counts as often as it is met; a slice's spare places count too). A statement '..UptoSaid' is the law's where the arguments, and the package variables that the reading takes, are together of bulk at most 1048576: NARROWER than '..Said'. Prove '..Said' where nothing that the law and all that it calls make is longer than what came in: it says more and counts as full. Else prove '..UptoSaid'. A law counts once. -/
mutual
def uptoBulk {H : Type} : DataW H → Nat
  | .lit (.string bytes) => bytes.length + 1
  | .lit _ => 1
  | .nil => 1
  | .ptr d => uptoBulk d + 1
  | .slice elems spare => uptoBulkAll elems + uptoBulkAll spare + 1
  | .agg parts => uptoBulkAll parts + 1
  | .iface _ d => uptoBulk d + 1
  | .map entries => uptoBulkEntries entries + 1
  | .held _ => 1
def uptoBulkAll {H : Type} : List (DataW H) → Nat
  | [] => 0
  | d :: r => uptoBulk d + uptoBulkAll r
def uptoBulkEntries {H : Type} : List (Lit × DataW H) → Nat
  | [] => 0
  | x :: r => uptoBulkEntry x + uptoBulkEntries r
def uptoBulkEntry {H : Type} : Lit × DataW H → Nat
  | (.string bytes, d) => bytes.length + uptoBulk d + 1
  | (_, d) => uptoBulk d + 1
 end
def uptoSmall : (H : Type) → List (DataW H) → Bool := fun _ ds => decide (uptoBulkAll ds ≤ 1048576)
def OpenSpec.upto (s : _root_.Go.ChangeSpec) : _root_.Go.OpenSpec := { _root_.Go.OpenSpec.ofChange s with cond := some uptoSmall }

/-- 'hushlaw12.MaskHides', WHERE WHAT IT READS IS OF BULK AT MOST 1048576: true; the input reads as it did. -/
def maskHidesUptoRow : OpenClaim := { program := "ytjehjjpejmdfiaa", sum := "8ced57483abf6fef75ba3053326ffdc0c26875cdd5754c952186512f44bc92da", func := "hushhouse/hushlaw12.MaskHides", spec := "maskHides", unfollowed := true, recurses := true, apart := false, narrowed := true }
def MaskHidesUptoSaid : Prop := maskHidesUptoRow.holds Try.pinned (OpenSpec.upto maskHidesSpec)

/-- 'hushlaw12.MaskSays', WHERE WHAT IT READS IS OF BULK AT MOST 1048576: true; the input reads as it did. -/
def maskSaysUptoRow : OpenClaim := { program := "ytjehjjpejmdfiaa", sum := "8ced57483abf6fef75ba3053326ffdc0c26875cdd5754c952186512f44bc92da", func := "hushhouse/hushlaw12.MaskSays", spec := "maskSays", unfollowed := true, recurses := true, apart := false, narrowed := true }
def MaskSaysUptoSaid : Prop := maskSaysUptoRow.holds Try.pinned (OpenSpec.upto maskSaysSpec)

/-- 'hushlaw12.MaskSums', WHERE WHAT IT READS IS OF BULK AT MOST 1048576: true; the input reads as it did. -/
def maskSumsUptoRow : OpenClaim := { program := "ytjehjjpejmdfiaa", sum := "8ced57483abf6fef75ba3053326ffdc0c26875cdd5754c952186512f44bc92da", func := "hushhouse/hushlaw12.MaskSums", spec := "maskSums", unfollowed := true, recurses := true, apart := false, narrowed := true }
def MaskSumsUptoSaid : Prop := maskSumsUptoRow.holds Try.pinned (OpenSpec.upto maskSumsSpec)

end Rows
end Go.Proofs.Ytjehjjpejmdfiaa

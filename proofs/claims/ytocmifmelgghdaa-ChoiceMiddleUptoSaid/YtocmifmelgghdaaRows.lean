/-
  No cell of these rows narrows 'for every input' (looked for: loops, veiled, ifaces, maps, wideKeys, modest, calm, conditions, laid).
  DERIVED. THE GIVEN ROWS OF THIS SEAT. 4 by the template 'for every input the law returns true; each argument reads behind the call as it read before'; 0 by the template 'total and deterministic' (their statements: YtocmifmelgghdaaTotals.lean).
  GIVEN WITH THE SEED: the statements are not yours to turn. If you find one false, say at which input.
  Laid BY PROGRAM, IN A SANDBOX (cutbox-rows.mjs): the forced cells as the released guide's own fill.sh prints them over the translation c8e17608b28ab771… (all of the seat's roots in one cut). By AI agents, Wed Nov 11 2026. No macro, syntax, notation, axiom, sorry.
-/
import Derived.Test.YtocmifmelgghdaaChecked
import GoSem.Claim
import GoSem.ClaimJoined
import GoSem.ClaimMapViews
import Derived.JoinedTies
import Derived.KernelRfl
namespace Go.Proofs.Ytocmifmelgghdaa
/- THE CELL 'sum', in the pinned program and in every row, IS THE sha256 OF THE DUMP (.gsa) THAT YtocmifmelgghdaaProg.lean LOADS. Nothing in Lean hashes anything: it is a label: what it is worth is what the hold of that sum in a sandbox is worth. -/
noncomputable def Try.pinned : Pinned := { name := "ytocmifmelgghdaa", sum := "c8e17608b28ab77180bbc01e2384a1922b151990075ae8b3980d55475f71c5ba", checked := Try.checked }
namespace Rows
def none {H : Type} : Left H := { results := [], args := [] }

/-- 'hushlaw7.ChoiceMiddle': WHATEVER THE INPUT: true; the input reads as it did. -/
def choiceMiddleSpec : ChangeSpec := { name := "choiceMiddle", fn := fun _ => fun
  | [d1, d2] => { results := [.lit (.bool true)], args := [d1, d2] }
  | _ => none }
def choiceMiddleRow : OpenClaim := { program := "ytocmifmelgghdaa", sum := "c8e17608b28ab77180bbc01e2384a1922b151990075ae8b3980d55475f71c5ba", func := "hushhouse/hushlaw7.ChoiceMiddle", spec := "choiceMiddle", unfollowed := true, recurses := true, apart := false }
def ChoiceMiddleSaid : Prop := choiceMiddleRow.holds Try.pinned (OpenSpec.ofChange choiceMiddleSpec)

/-- ITS FALSE NEIGHBOUR: 'it returns false'. Refute it at one input. -/
def choiceMiddleWrong : ChangeSpec := { name := "choiceMiddle", fn := fun _ => fun
  | [d1, d2] => { results := [.lit (.bool false)], args := [d1, d2] }
  | _ => none }
def ChoiceMiddleWrongFalsely : Prop := choiceMiddleRow.holds Try.pinned (OpenSpec.ofChange choiceMiddleWrong)

/-- 'hushlaw7.ChoiceBetter': WHATEVER THE INPUT: true; the input reads as it did. -/
def choiceBetterSpec : ChangeSpec := { name := "choiceBetter", fn := fun _ => fun
  | [d1, d2] => { results := [.lit (.bool true)], args := [d1, d2] }
  | _ => none }
def choiceBetterRow : OpenClaim := { program := "ytocmifmelgghdaa", sum := "c8e17608b28ab77180bbc01e2384a1922b151990075ae8b3980d55475f71c5ba", func := "hushhouse/hushlaw7.ChoiceBetter", spec := "choiceBetter", unfollowed := true, recurses := true, apart := false }
def ChoiceBetterSaid : Prop := choiceBetterRow.holds Try.pinned (OpenSpec.ofChange choiceBetterSpec)

/-- ITS FALSE NEIGHBOUR: 'it returns false'. Refute it at one input. -/
def choiceBetterWrong : ChangeSpec := { name := "choiceBetter", fn := fun _ => fun
  | [d1, d2] => { results := [.lit (.bool false)], args := [d1, d2] }
  | _ => none }
def ChoiceBetterWrongFalsely : Prop := choiceBetterRow.holds Try.pinned (OpenSpec.ofChange choiceBetterWrong)

/-- 'hushlaw7.ChoiceWeighs': WHATEVER THE INPUT: true; the input reads as it did. -/
def choiceWeighsSpec : ChangeSpec := { name := "choiceWeighs", fn := fun _ => fun
  | [d1, d2, d3, d4] => { results := [.lit (.bool true)], args := [d1, d2, d3, d4] }
  | _ => none }
def choiceWeighsRow : OpenClaim := { program := "ytocmifmelgghdaa", sum := "c8e17608b28ab77180bbc01e2384a1922b151990075ae8b3980d55475f71c5ba", func := "hushhouse/hushlaw7.ChoiceWeighs", spec := "choiceWeighs", unfollowed := true, recurses := true, apart := false }
def ChoiceWeighsSaid : Prop := choiceWeighsRow.holds Try.pinned (OpenSpec.ofChange choiceWeighsSpec)

/-- ITS FALSE NEIGHBOUR: 'it returns false'. Refute it at one input. -/
def choiceWeighsWrong : ChangeSpec := { name := "choiceWeighs", fn := fun _ => fun
  | [d1, d2, d3, d4] => { results := [.lit (.bool false)], args := [d1, d2, d3, d4] }
  | _ => none }
def ChoiceWeighsWrongFalsely : Prop := choiceWeighsRow.holds Try.pinned (OpenSpec.ofChange choiceWeighsWrong)

/-- 'hushlaw7.ChoiceKeeps': WHATEVER THE INPUT: true; the input reads as it did. -/
def choiceKeepsSpec : ChangeSpec := { name := "choiceKeeps", fn := fun _ => fun
  | [d1, d2, d3] => { results := [.lit (.bool true)], args := [d1, d2, d3] }
  | _ => none }
def choiceKeepsRow : OpenClaim := { program := "ytocmifmelgghdaa", sum := "c8e17608b28ab77180bbc01e2384a1922b151990075ae8b3980d55475f71c5ba", func := "hushhouse/hushlaw7.ChoiceKeeps", spec := "choiceKeeps", unfollowed := true, recurses := true, apart := false }
def ChoiceKeepsSaid : Prop := choiceKeepsRow.holds Try.pinned (OpenSpec.ofChange choiceKeepsSpec)

/-- ITS FALSE NEIGHBOUR: 'it returns false'. Refute it at one input. -/
def choiceKeepsWrong : ChangeSpec := { name := "choiceKeeps", fn := fun _ => fun
  | [d1, d2, d3] => { results := [.lit (.bool false)], args := [d1, d2, d3] }
  | _ => none }
def ChoiceKeepsWrongFalsely : Prop := choiceKeepsRow.holds Try.pinned (OpenSpec.ofChange choiceKeepsWrong)

/- THE SECOND FORM. 'bulk': how many values and letters a reading holds, each counted each time it is reached (what is shared counts as often as it is met; a slice's spare places count too). A statement '..UptoSaid' is the law's where the arguments, and the package variables that the reading takes, are together of bulk at most 1048576: NARROWER than '..Said'. Prove '..Said' where nothing that the law and all that it calls make is longer than what came in: it says more and counts as full. Else prove '..UptoSaid'. A law counts once. -/
mutual
def uptoBulk {H : Type} : DataW H → Nat
  | .lit (.string bytes) => bytes.length + 1
  | .lit _ => 1
  | .nil => 1
  | .ptr d => uptoBulk d + 1
  | .slice elems spare => uptoBulkAll elems + uptoBulkAll spare + 1
  | .agg parts => uptoBulkAll parts + 1
  | .iface _ d => uptoBulk d + 1
  | .map entries => uptoBulkEntries entries + 1
  | .held _ => 1
def uptoBulkAll {H : Type} : List (DataW H) → Nat
  | [] => 0
  | d :: r => uptoBulk d + uptoBulkAll r
def uptoBulkEntries {H : Type} : List (Lit × DataW H) → Nat
  | [] => 0
  | x :: r => uptoBulkEntry x + uptoBulkEntries r
def uptoBulkEntry {H : Type} : Lit × DataW H → Nat
  | (.string bytes, d) => bytes.length + uptoBulk d + 1
  | (_, d) => uptoBulk d + 1
 end
def uptoSmall : (H : Type) → List (DataW H) → Bool := fun _ ds => decide (uptoBulkAll ds ≤ 1048576)
def OpenSpec.upto (s : _root_.Go.ChangeSpec) : _root_.Go.OpenSpec := { _root_.Go.OpenSpec.ofChange s with cond := some uptoSmall }

/-- 'hushlaw7.ChoiceMiddle', WHERE WHAT IT READS IS OF BULK AT MOST 1048576: true; the input reads as it did. -/
def choiceMiddleUptoRow : OpenClaim := { program := "ytocmifmelgghdaa", sum := "c8e17608b28ab77180bbc01e2384a1922b151990075ae8b3980d55475f71c5ba", func := "hushhouse/hushlaw7.ChoiceMiddle", spec := "choiceMiddle", unfollowed := true, recurses := true, apart := false, narrowed := true }
def ChoiceMiddleUptoSaid : Prop := choiceMiddleUptoRow.holds Try.pinned (OpenSpec.upto choiceMiddleSpec)

/-- 'hushlaw7.ChoiceBetter', WHERE WHAT IT READS IS OF BULK AT MOST 1048576: true; the input reads as it did. -/
def choiceBetterUptoRow : OpenClaim := { program := "ytocmifmelgghdaa", sum := "c8e17608b28ab77180bbc01e2384a1922b151990075ae8b3980d55475f71c5ba", func := "hushhouse/hushlaw7.ChoiceBetter", spec := "choiceBetter", unfollowed := true, recurses := true, apart := false, narrowed := true }
def ChoiceBetterUptoSaid : Prop := choiceBetterUptoRow.holds Try.pinned (OpenSpec.upto choiceBetterSpec)

/-- 'hushlaw7.ChoiceWeighs', WHERE WHAT IT READS IS OF BULK AT MOST 1048576: true; the input reads as it did. -/
def choiceWeighsUptoRow : OpenClaim := { program := "ytocmifmelgghdaa", sum := "c8e17608b28ab77180bbc01e2384a1922b151990075ae8b3980d55475f71c5ba", func := "hushhouse/hushlaw7.ChoiceWeighs", spec := "choiceWeighs", unfollowed := true, recurses := true, apart := false, narrowed := true }
def ChoiceWeighsUptoSaid : Prop := choiceWeighsUptoRow.holds Try.pinned (OpenSpec.upto choiceWeighsSpec)

/-- 'hushlaw7.ChoiceKeeps', WHERE WHAT IT READS IS OF BULK AT MOST 1048576: true; the input reads as it did. -/
def choiceKeepsUptoRow : OpenClaim := { program := "ytocmifmelgghdaa", sum := "c8e17608b28ab77180bbc01e2384a1922b151990075ae8b3980d55475f71c5ba", func := "hushhouse/hushlaw7.ChoiceKeeps", spec := "choiceKeeps", unfollowed := true, recurses := true, apart := false, narrowed := true }
def ChoiceKeepsUptoSaid : Prop := choiceKeepsUptoRow.holds Try.pinned (OpenSpec.upto choiceKeepsSpec)

end Rows
end Go.Proofs.Ytocmifmelgghdaa

/-
  No cell of these rows narrows 'for every input' (looked for: loops, veiled, ifaces, maps, wideKeys, modest, calm, conditions, laid).
  DERIVED. THE GIVEN ROWS OF THIS SEAT. 7 by the template 'for every input the law returns true; each argument reads behind the call as it read before'; 0 by the template 'total and deterministic' (their statements: YtkemhfhmlcljjaaTotals.lean).
  GIVEN WITH THE SEED: the statements are not yours to turn. If you find one false, say at which input.
  Laid BY PROGRAM, IN A SANDBOX (cutbox-rows.mjs): the forced cells as the released guide's own fill.sh prints them over the translation 37d224aebdd043fb… (all of the seat's roots in one cut). By AI agents, Wed Nov 11 2026. No macro, syntax, notation, axiom, sorry.
-/
import Derived.Test.YtkemhfhmlcljjaaChecked
import GoSem.Claim
import GoSem.ClaimJoined
import GoSem.ClaimMapViews
import Derived.JoinedTies
import Derived.KernelRfl
namespace Go.Proofs.Ytkemhfhmlcljjaa
/- THE CELL 'sum', in the pinned program and in every row, IS THE sha256 OF THE DUMP (.gsa) THAT YtkemhfhmlcljjaaProg.lean LOADS. Nothing in Lean hashes anything: it is a label: what it is worth is what the hold of that sum in a sandbox is worth. -/
noncomputable def Try.pinned : Pinned := { name := "ytkemhfhmlcljjaa", sum := "37d224aebdd043fba40813b84edbe098d1c3e876b31e60e38da5be1ab744134f", checked := Try.checked }
namespace Rows
def none {H : Type} : Left H := { results := [], args := [] }

/-- 'hushlaw2.DistMakes': WHATEVER THE INPUT: true; the input reads as it did. -/
def distMakesSpec : ChangeSpec := { name := "distMakes", fn := fun _ => fun
  | [d1, d2, d3, d4] => { results := [.lit (.bool true)], args := [d1, d2, d3, d4] }
  | _ => none }
def distMakesRow : OpenClaim := { program := "ytkemhfhmlcljjaa", sum := "37d224aebdd043fba40813b84edbe098d1c3e876b31e60e38da5be1ab744134f", func := "hushhouse/hushlaw2.DistMakes", spec := "distMakes", unfollowed := true, recurses := true, apart := false }
def DistMakesSaid : Prop := distMakesRow.holds Try.pinned (OpenSpec.ofChange distMakesSpec)

/-- ITS FALSE NEIGHBOUR: 'it returns false'. Refute it at one input. -/
def distMakesWrong : ChangeSpec := { name := "distMakes", fn := fun _ => fun
  | [d1, d2, d3, d4] => { results := [.lit (.bool false)], args := [d1, d2, d3, d4] }
  | _ => none }
def DistMakesWrongFalsely : Prop := distMakesRow.holds Try.pinned (OpenSpec.ofChange distMakesWrong)

/-- 'hushlaw2.DistMonad': WHATEVER THE INPUT: true; the input reads as it did. -/
def distMonadSpec : ChangeSpec := { name := "distMonad", fn := fun _ => fun
  | [d1, d2, d3, d4] => { results := [.lit (.bool true)], args := [d1, d2, d3, d4] }
  | _ => none }
def distMonadRow : OpenClaim := { program := "ytkemhfhmlcljjaa", sum := "37d224aebdd043fba40813b84edbe098d1c3e876b31e60e38da5be1ab744134f", func := "hushhouse/hushlaw2.DistMonad", spec := "distMonad", unfollowed := true, recurses := true, apart := false }
def DistMonadSaid : Prop := distMonadRow.holds Try.pinned (OpenSpec.ofChange distMonadSpec)

/-- ITS FALSE NEIGHBOUR: 'it returns false'. Refute it at one input. -/
def distMonadWrong : ChangeSpec := { name := "distMonad", fn := fun _ => fun
  | [d1, d2, d3, d4] => { results := [.lit (.bool false)], args := [d1, d2, d3, d4] }
  | _ => none }
def DistMonadWrongFalsely : Prop := distMonadRow.holds Try.pinned (OpenSpec.ofChange distMonadWrong)

/-- 'hushlaw2.DistFars': WHATEVER THE INPUT: true; the input reads as it did. -/
def distFarsSpec : ChangeSpec := { name := "distFars", fn := fun _ => fun
  | [d1, d2] => { results := [.lit (.bool true)], args := [d1, d2] }
  | _ => none }
def distFarsRow : OpenClaim := { program := "ytkemhfhmlcljjaa", sum := "37d224aebdd043fba40813b84edbe098d1c3e876b31e60e38da5be1ab744134f", func := "hushhouse/hushlaw2.DistFars", spec := "distFars", unfollowed := true, recurses := true, apart := false }
def DistFarsSaid : Prop := distFarsRow.holds Try.pinned (OpenSpec.ofChange distFarsSpec)

/-- ITS FALSE NEIGHBOUR: 'it returns false'. Refute it at one input. -/
def distFarsWrong : ChangeSpec := { name := "distFars", fn := fun _ => fun
  | [d1, d2] => { results := [.lit (.bool false)], args := [d1, d2] }
  | _ => none }
def DistFarsWrongFalsely : Prop := distFarsRow.holds Try.pinned (OpenSpec.ofChange distFarsWrong)

/-- 'hushlaw2.DistMetric': WHATEVER THE INPUT: true; the input reads as it did. -/
def distMetricSpec : ChangeSpec := { name := "distMetric", fn := fun _ => fun
  | [d1, d2, d3] => { results := [.lit (.bool true)], args := [d1, d2, d3] }
  | _ => none }
def distMetricRow : OpenClaim := { program := "ytkemhfhmlcljjaa", sum := "37d224aebdd043fba40813b84edbe098d1c3e876b31e60e38da5be1ab744134f", func := "hushhouse/hushlaw2.DistMetric", spec := "distMetric", unfollowed := true, recurses := true, apart := false }
def DistMetricSaid : Prop := distMetricRow.holds Try.pinned (OpenSpec.ofChange distMetricSpec)

/-- ITS FALSE NEIGHBOUR: 'it returns false'. Refute it at one input. -/
def distMetricWrong : ChangeSpec := { name := "distMetric", fn := fun _ => fun
  | [d1, d2, d3] => { results := [.lit (.bool false)], args := [d1, d2, d3] }
  | _ => none }
def DistMetricWrongFalsely : Prop := distMetricRow.holds Try.pinned (OpenSpec.ofChange distMetricWrong)

/-- 'hushlaw2.DistPost': WHATEVER THE INPUT: true; the input reads as it did. -/
def distPostSpec : ChangeSpec := { name := "distPost", fn := fun _ => fun
  | [d1, d2, d3] => { results := [.lit (.bool true)], args := [d1, d2, d3] }
  | _ => none }
def distPostRow : OpenClaim := { program := "ytkemhfhmlcljjaa", sum := "37d224aebdd043fba40813b84edbe098d1c3e876b31e60e38da5be1ab744134f", func := "hushhouse/hushlaw2.DistPost", spec := "distPost", unfollowed := true, recurses := true, apart := false }
def DistPostSaid : Prop := distPostRow.holds Try.pinned (OpenSpec.ofChange distPostSpec)

/-- ITS FALSE NEIGHBOUR: 'it returns false'. Refute it at one input. -/
def distPostWrong : ChangeSpec := { name := "distPost", fn := fun _ => fun
  | [d1, d2, d3] => { results := [.lit (.bool false)], args := [d1, d2, d3] }
  | _ => none }
def DistPostWrongFalsely : Prop := distPostRow.holds Try.pinned (OpenSpec.ofChange distPostWrong)

/-- 'hushlaw2.DistMoves': WHATEVER THE INPUT: true; the input reads as it did. -/
def distMovesSpec : ChangeSpec := { name := "distMoves", fn := fun _ => fun
  | [d1, d2, d3, d4, d5] => { results := [.lit (.bool true)], args := [d1, d2, d3, d4, d5] }
  | _ => none }
def distMovesRow : OpenClaim := { program := "ytkemhfhmlcljjaa", sum := "37d224aebdd043fba40813b84edbe098d1c3e876b31e60e38da5be1ab744134f", func := "hushhouse/hushlaw2.DistMoves", spec := "distMoves", unfollowed := true, recurses := true, apart := false }
def DistMovesSaid : Prop := distMovesRow.holds Try.pinned (OpenSpec.ofChange distMovesSpec)

/-- ITS FALSE NEIGHBOUR: 'it returns false'. Refute it at one input. -/
def distMovesWrong : ChangeSpec := { name := "distMoves", fn := fun _ => fun
  | [d1, d2, d3, d4, d5] => { results := [.lit (.bool false)], args := [d1, d2, d3, d4, d5] }
  | _ => none }
def DistMovesWrongFalsely : Prop := distMovesRow.holds Try.pinned (OpenSpec.ofChange distMovesWrong)

/-- 'hushlaw2.DistCompose': WHATEVER THE INPUT: true; the input reads as it did. -/
def distComposeSpec : ChangeSpec := { name := "distCompose", fn := fun _ => fun
  | [d1, d2, d3, d4] => { results := [.lit (.bool true)], args := [d1, d2, d3, d4] }
  | _ => none }
def distComposeRow : OpenClaim := { program := "ytkemhfhmlcljjaa", sum := "37d224aebdd043fba40813b84edbe098d1c3e876b31e60e38da5be1ab744134f", func := "hushhouse/hushlaw2.DistCompose", spec := "distCompose", unfollowed := true, recurses := true, apart := false }
def DistComposeSaid : Prop := distComposeRow.holds Try.pinned (OpenSpec.ofChange distComposeSpec)

/-- ITS FALSE NEIGHBOUR: 'it returns false'. Refute it at one input. -/
def distComposeWrong : ChangeSpec := { name := "distCompose", fn := fun _ => fun
  | [d1, d2, d3, d4] => { results := [.lit (.bool false)], args := [d1, d2, d3, d4] }
  | _ => none }
def DistComposeWrongFalsely : Prop := distComposeRow.holds Try.pinned (OpenSpec.ofChange distComposeWrong)

/- THE SECOND FORM. 'bulk': how many values and letters a reading holds, each counted each time it is reached (what is shared counts as often as it is met; a slice's spare places count too). A statement '..UptoSaid' is the law's where the arguments, and the package variables that the reading takes, are together of bulk at most 1048576: NARROWER than '..Said'. Prove '..Said' where nothing that the law and all that it calls make is longer than what came in: it says more and counts as full. Else prove '..UptoSaid'. A law counts once. -/
mutual
def uptoBulk {H : Type} : DataW H → Nat
  | .lit (.string bytes) => bytes.length + 1
  | .lit _ => 1
  | .nil => 1
  | .ptr d => uptoBulk d + 1
  | .slice elems spare => uptoBulkAll elems + uptoBulkAll spare + 1
  | .agg parts => uptoBulkAll parts + 1
  | .iface _ d => uptoBulk d + 1
  | .map entries => uptoBulkEntries entries + 1
  | .held _ => 1
def uptoBulkAll {H : Type} : List (DataW H) → Nat
  | [] => 0
  | d :: r => uptoBulk d + uptoBulkAll r
def uptoBulkEntries {H : Type} : List (Lit × DataW H) → Nat
  | [] => 0
  | x :: r => uptoBulkEntry x + uptoBulkEntries r
def uptoBulkEntry {H : Type} : Lit × DataW H → Nat
  | (.string bytes, d) => bytes.length + uptoBulk d + 1
  | (_, d) => uptoBulk d + 1
 end
def uptoSmall : (H : Type) → List (DataW H) → Bool := fun _ ds => decide (uptoBulkAll ds ≤ 1048576)
def OpenSpec.upto (s : _root_.Go.ChangeSpec) : _root_.Go.OpenSpec := { _root_.Go.OpenSpec.ofChange s with cond := some uptoSmall }

/-- 'hushlaw2.DistMakes', WHERE WHAT IT READS IS OF BULK AT MOST 1048576: true; the input reads as it did. -/
def distMakesUptoRow : OpenClaim := { program := "ytkemhfhmlcljjaa", sum := "37d224aebdd043fba40813b84edbe098d1c3e876b31e60e38da5be1ab744134f", func := "hushhouse/hushlaw2.DistMakes", spec := "distMakes", unfollowed := true, recurses := true, apart := false, narrowed := true }
def DistMakesUptoSaid : Prop := distMakesUptoRow.holds Try.pinned (OpenSpec.upto distMakesSpec)

/-- 'hushlaw2.DistMonad', WHERE WHAT IT READS IS OF BULK AT MOST 1048576: true; the input reads as it did. -/
def distMonadUptoRow : OpenClaim := { program := "ytkemhfhmlcljjaa", sum := "37d224aebdd043fba40813b84edbe098d1c3e876b31e60e38da5be1ab744134f", func := "hushhouse/hushlaw2.DistMonad", spec := "distMonad", unfollowed := true, recurses := true, apart := false, narrowed := true }
def DistMonadUptoSaid : Prop := distMonadUptoRow.holds Try.pinned (OpenSpec.upto distMonadSpec)

/-- 'hushlaw2.DistFars', WHERE WHAT IT READS IS OF BULK AT MOST 1048576: true; the input reads as it did. -/
def distFarsUptoRow : OpenClaim := { program := "ytkemhfhmlcljjaa", sum := "37d224aebdd043fba40813b84edbe098d1c3e876b31e60e38da5be1ab744134f", func := "hushhouse/hushlaw2.DistFars", spec := "distFars", unfollowed := true, recurses := true, apart := false, narrowed := true }
def DistFarsUptoSaid : Prop := distFarsUptoRow.holds Try.pinned (OpenSpec.upto distFarsSpec)

/-- 'hushlaw2.DistMetric', WHERE WHAT IT READS IS OF BULK AT MOST 1048576: true; the input reads as it did. -/
def distMetricUptoRow : OpenClaim := { program := "ytkemhfhmlcljjaa", sum := "37d224aebdd043fba40813b84edbe098d1c3e876b31e60e38da5be1ab744134f", func := "hushhouse/hushlaw2.DistMetric", spec := "distMetric", unfollowed := true, recurses := true, apart := false, narrowed := true }
def DistMetricUptoSaid : Prop := distMetricUptoRow.holds Try.pinned (OpenSpec.upto distMetricSpec)

/-- 'hushlaw2.DistPost', WHERE WHAT IT READS IS OF BULK AT MOST 1048576: true; the input reads as it did. -/
def distPostUptoRow : OpenClaim := { program := "ytkemhfhmlcljjaa", sum := "37d224aebdd043fba40813b84edbe098d1c3e876b31e60e38da5be1ab744134f", func := "hushhouse/hushlaw2.DistPost", spec := "distPost", unfollowed := true, recurses := true, apart := false, narrowed := true }
def DistPostUptoSaid : Prop := distPostUptoRow.holds Try.pinned (OpenSpec.upto distPostSpec)

/-- 'hushlaw2.DistMoves', WHERE WHAT IT READS IS OF BULK AT MOST 1048576: true; the input reads as it did. -/
def distMovesUptoRow : OpenClaim := { program := "ytkemhfhmlcljjaa", sum := "37d224aebdd043fba40813b84edbe098d1c3e876b31e60e38da5be1ab744134f", func := "hushhouse/hushlaw2.DistMoves", spec := "distMoves", unfollowed := true, recurses := true, apart := false, narrowed := true }
def DistMovesUptoSaid : Prop := distMovesUptoRow.holds Try.pinned (OpenSpec.upto distMovesSpec)

/-- 'hushlaw2.DistCompose', WHERE WHAT IT READS IS OF BULK AT MOST 1048576: true; the input reads as it did. -/
def distComposeUptoRow : OpenClaim := { program := "ytkemhfhmlcljjaa", sum := "37d224aebdd043fba40813b84edbe098d1c3e876b31e60e38da5be1ab744134f", func := "hushhouse/hushlaw2.DistCompose", spec := "distCompose", unfollowed := true, recurses := true, apart := false, narrowed := true }
def DistComposeUptoSaid : Prop := distComposeUptoRow.holds Try.pinned (OpenSpec.upto distComposeSpec)

end Rows
end Go.Proofs.Ytkemhfhmlcljjaa

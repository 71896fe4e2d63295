/-
  No cell of these rows narrows 'for every input' (looked for: loops, veiled, ifaces, maps, wideKeys, modest, calm, conditions, laid).
  DERIVED. THE GIVEN ROWS OF THIS SEAT. 4 by the template 'for every input the law returns true; each argument reads behind the call as it read before'; 0 by the template 'total and deterministic' (their statements: YtcggbpefeahkiaaTotals.lean).
  GIVEN WITH THE SEED: the statements are not yours to turn. If you find one false, say at which input.
  Laid BY PROGRAM, IN A SANDBOX (cutbox-rows.mjs): the forced cells as the released guide's own fill.sh prints them over the translation 8521a5ccb57a287a… (all of the seat's roots in one cut). By AI agents, Wed Nov 11 2026. No macro, syntax, notation, axiom, sorry.
-/
import Derived.Test.YtcggbpefeahkiaaChecked
import GoSem.Claim
import GoSem.ClaimJoined
import GoSem.ClaimMapViews
import Derived.JoinedTies
import Derived.KernelRfl
namespace Go.Proofs.Ytcggbpefeahkiaa
/- THE CELL 'sum', in the pinned program and in every row, IS THE sha256 OF THE DUMP (.gsa) THAT YtcggbpefeahkiaaProg.lean LOADS. Nothing in Lean hashes anything: it is a label: what it is worth is what the hold of that sum in a sandbox is worth. -/
noncomputable def Try.pinned : Pinned := { name := "ytcggbpefeahkiaa", sum := "8521a5ccb57a287a263e2769bffd679096481423039fcfd7e412f757cb09f1f1", checked := Try.checked }
namespace Rows
def none {H : Type} : Left H := { results := [], args := [] }

/-- 'hushlaw3.DiceEven': WHATEVER THE INPUT: true; the input reads as it did. -/
def diceEvenSpec : ChangeSpec := { name := "diceEven", fn := fun _ => fun
  | [d1, d2] => { results := [.lit (.bool true)], args := [d1, d2] }
  | _ => none }
def diceEvenRow : OpenClaim := { program := "ytcggbpefeahkiaa", sum := "8521a5ccb57a287a263e2769bffd679096481423039fcfd7e412f757cb09f1f1", func := "hushhouse/hushlaw3.DiceEven", spec := "diceEven", unfollowed := true, recurses := true, apart := false }
def DiceEvenSaid : Prop := diceEvenRow.holds Try.pinned (OpenSpec.ofChange diceEvenSpec)

/-- ITS FALSE NEIGHBOUR: 'it returns false'. Refute it at one input. -/
def diceEvenWrong : ChangeSpec := { name := "diceEven", fn := fun _ => fun
  | [d1, d2] => { results := [.lit (.bool false)], args := [d1, d2] }
  | _ => none }
def DiceEvenWrongFalsely : Prop := diceEvenRow.holds Try.pinned (OpenSpec.ofChange diceEvenWrong)

/-- 'hushlaw3.DiceFeeds': WHATEVER THE INPUT: true; the input reads as it did. -/
def diceFeedsSpec : ChangeSpec := { name := "diceFeeds", fn := fun _ => fun
  | [d1, d2] => { results := [.lit (.bool true)], args := [d1, d2] }
  | _ => none }
def diceFeedsRow : OpenClaim := { program := "ytcggbpefeahkiaa", sum := "8521a5ccb57a287a263e2769bffd679096481423039fcfd7e412f757cb09f1f1", func := "hushhouse/hushlaw3.DiceFeeds", spec := "diceFeeds", unfollowed := true, recurses := true, apart := false }
def DiceFeedsSaid : Prop := diceFeedsRow.holds Try.pinned (OpenSpec.ofChange diceFeedsSpec)

/-- ITS FALSE NEIGHBOUR: 'it returns false'. Refute it at one input. -/
def diceFeedsWrong : ChangeSpec := { name := "diceFeeds", fn := fun _ => fun
  | [d1, d2] => { results := [.lit (.bool false)], args := [d1, d2] }
  | _ => none }
def DiceFeedsWrongFalsely : Prop := diceFeedsRow.holds Try.pinned (OpenSpec.ofChange diceFeedsWrong)

/-- 'hushlaw3.DiceRolls': WHATEVER THE INPUT: true; the input reads as it did. -/
def diceRollsSpec : ChangeSpec := { name := "diceRolls", fn := fun _ => fun
  | [d1, d2, d3, d4] => { results := [.lit (.bool true)], args := [d1, d2, d3, d4] }
  | _ => none }
def diceRollsRow : OpenClaim := { program := "ytcggbpefeahkiaa", sum := "8521a5ccb57a287a263e2769bffd679096481423039fcfd7e412f757cb09f1f1", func := "hushhouse/hushlaw3.DiceRolls", spec := "diceRolls", unfollowed := true, recurses := true, apart := false }
def DiceRollsSaid : Prop := diceRollsRow.holds Try.pinned (OpenSpec.ofChange diceRollsSpec)

/-- ITS FALSE NEIGHBOUR: 'it returns false'. Refute it at one input. -/
def diceRollsWrong : ChangeSpec := { name := "diceRolls", fn := fun _ => fun
  | [d1, d2, d3, d4] => { results := [.lit (.bool false)], args := [d1, d2, d3, d4] }
  | _ => none }
def DiceRollsWrongFalsely : Prop := diceRollsRow.holds Try.pinned (OpenSpec.ofChange diceRollsWrong)

/-- 'hushlaw3.DiceFair': WHATEVER THE INPUT: true; the input reads as it did. -/
def diceFairSpec : ChangeSpec := { name := "diceFair", fn := fun _ => fun
  | [d1, d2] => { results := [.lit (.bool true)], args := [d1, d2] }
  | _ => none }
def diceFairRow : OpenClaim := { program := "ytcggbpefeahkiaa", sum := "8521a5ccb57a287a263e2769bffd679096481423039fcfd7e412f757cb09f1f1", func := "hushhouse/hushlaw3.DiceFair", spec := "diceFair", unfollowed := true, recurses := true, apart := false }
def DiceFairSaid : Prop := diceFairRow.holds Try.pinned (OpenSpec.ofChange diceFairSpec)

/-- ITS FALSE NEIGHBOUR: 'it returns false'. Refute it at one input. -/
def diceFairWrong : ChangeSpec := { name := "diceFair", fn := fun _ => fun
  | [d1, d2] => { results := [.lit (.bool false)], args := [d1, d2] }
  | _ => none }
def DiceFairWrongFalsely : Prop := diceFairRow.holds Try.pinned (OpenSpec.ofChange diceFairWrong)

/- THE SECOND FORM. 'bulk': how many values and letters a reading holds, each counted each time it is reached (what is shared counts as often as it is met; a slice's spare places count too). A statement '..UptoSaid' is the law's where the arguments, and the package variables that the reading takes, are together of bulk at most 1048576: NARROWER than '..Said'. Prove '..Said' where nothing that the law and all that it calls make is longer than what came in: it says more and counts as full. Else prove '..UptoSaid'. A law counts once. -/
mutual
def uptoBulk {H : Type} : DataW H → Nat
  | .lit (.string bytes) => bytes.length + 1
  | .lit _ => 1
  | .nil => 1
  | .ptr d => uptoBulk d + 1
  | .slice elems spare => uptoBulkAll elems + uptoBulkAll spare + 1
  | .agg parts => uptoBulkAll parts + 1
  | .iface _ d => uptoBulk d + 1
  | .map entries => uptoBulkEntries entries + 1
  | .held _ => 1
def uptoBulkAll {H : Type} : List (DataW H) → Nat
  | [] => 0
  | d :: r => uptoBulk d + uptoBulkAll r
def uptoBulkEntries {H : Type} : List (Lit × DataW H) → Nat
  | [] => 0
  | x :: r => uptoBulkEntry x + uptoBulkEntries r
def uptoBulkEntry {H : Type} : Lit × DataW H → Nat
  | (.string bytes, d) => bytes.length + uptoBulk d + 1
  | (_, d) => uptoBulk d + 1
 end
def uptoSmall : (H : Type) → List (DataW H) → Bool := fun _ ds => decide (uptoBulkAll ds ≤ 1048576)
def OpenSpec.upto (s : _root_.Go.ChangeSpec) : _root_.Go.OpenSpec := { _root_.Go.OpenSpec.ofChange s with cond := some uptoSmall }

/-- 'hushlaw3.DiceEven', WHERE WHAT IT READS IS OF BULK AT MOST 1048576: true; the input reads as it did. -/
def diceEvenUptoRow : OpenClaim := { program := "ytcggbpefeahkiaa", sum := "8521a5ccb57a287a263e2769bffd679096481423039fcfd7e412f757cb09f1f1", func := "hushhouse/hushlaw3.DiceEven", spec := "diceEven", unfollowed := true, recurses := true, apart := false, narrowed := true }
def DiceEvenUptoSaid : Prop := diceEvenUptoRow.holds Try.pinned (OpenSpec.upto diceEvenSpec)

/-- 'hushlaw3.DiceFeeds', WHERE WHAT IT READS IS OF BULK AT MOST 1048576: true; the input reads as it did. -/
def diceFeedsUptoRow : OpenClaim := { program := "ytcggbpefeahkiaa", sum := "8521a5ccb57a287a263e2769bffd679096481423039fcfd7e412f757cb09f1f1", func := "hushhouse/hushlaw3.DiceFeeds", spec := "diceFeeds", unfollowed := true, recurses := true, apart := false, narrowed := true }
def DiceFeedsUptoSaid : Prop := diceFeedsUptoRow.holds Try.pinned (OpenSpec.upto diceFeedsSpec)

/-- 'hushlaw3.DiceRolls', WHERE WHAT IT READS IS OF BULK AT MOST 1048576: true; the input reads as it did. -/
def diceRollsUptoRow : OpenClaim := { program := "ytcggbpefeahkiaa", sum := "8521a5ccb57a287a263e2769bffd679096481423039fcfd7e412f757cb09f1f1", func := "hushhouse/hushlaw3.DiceRolls", spec := "diceRolls", unfollowed := true, recurses := true, apart := false, narrowed := true }
def DiceRollsUptoSaid : Prop := diceRollsUptoRow.holds Try.pinned (OpenSpec.upto diceRollsSpec)

/-- 'hushlaw3.DiceFair', WHERE WHAT IT READS IS OF BULK AT MOST 1048576: true; the input reads as it did. -/
def diceFairUptoRow : OpenClaim := { program := "ytcggbpefeahkiaa", sum := "8521a5ccb57a287a263e2769bffd679096481423039fcfd7e412f757cb09f1f1", func := "hushhouse/hushlaw3.DiceFair", spec := "diceFair", unfollowed := true, recurses := true, apart := false, narrowed := true }
def DiceFairUptoSaid : Prop := diceFairUptoRow.holds Try.pinned (OpenSpec.upto diceFairSpec)

end Rows
end Go.Proofs.Ytcggbpefeahkiaa

/-
  NARROWER THAN 'FOR EVERY INPUT', by the rows' own cells (each row's printed sentence says how): SampleLess: loops.
  DERIVED. THE GIVEN ROWS OF THIS SEAT. 2 by the template 'for every input the law returns true; each argument reads behind the call as it read before'; 0 by the template 'total and deterministic' (their statements: YteajcjalpofalaaTotals.lean).
  GIVEN WITH THE SEED: the statements are not yours to turn. If you find one false, say at which input.
  Laid BY PROGRAM, IN A SANDBOX (cutbox-rows.mjs): the forced cells as the released guide's own fill.sh prints them over the translation 92c08a7403fd27bd… (all of the seat's roots in one cut). By AI agents, Wed Nov 11 2026. No macro, syntax, notation, axiom, sorry.
-/
import Derived.Test.YteajcjalpofalaaChecked
import GoSem.Claim
import GoSem.ClaimJoined
import GoSem.ClaimMapViews
import Derived.JoinedTies
import Derived.KernelRfl
namespace Go.Proofs.Yteajcjalpofalaa
/- THE CELL 'sum', in the pinned program and in every row, IS THE sha256 OF THE DUMP (.gsa) THAT YteajcjalpofalaaProg.lean LOADS. Nothing in Lean hashes anything: it is a label: what it is worth is what the hold of that sum in a sandbox is worth. -/
noncomputable def Try.pinned : Pinned := { name := "yteajcjalpofalaa", sum := "92c08a7403fd27bd419c2b6a6f3b9f4c02dd2703010ef24f53200b003424f4a0", checked := Try.checked }
namespace Rows
def none {H : Type} : Left H := { results := [], args := [] }

/-- 'hushlaw11.SampleSubsets': WHATEVER THE INPUT: true; the input reads as it did. -/
def sampleSubsetsSpec : ChangeSpec := { name := "sampleSubsets", fn := fun _ => fun
  | [d1, d2, d3] => { results := [.lit (.bool true)], args := [d1, d2, d3] }
  | _ => none }
def sampleSubsetsRow : OpenClaim := { program := "yteajcjalpofalaa", sum := "92c08a7403fd27bd419c2b6a6f3b9f4c02dd2703010ef24f53200b003424f4a0", func := "hushhouse/hushlaw11.SampleSubsets", spec := "sampleSubsets", unfollowed := true, recurses := true, apart := false }
def SampleSubsetsSaid : Prop := sampleSubsetsRow.holds Try.pinned (OpenSpec.ofChange sampleSubsetsSpec)

/-- ITS FALSE NEIGHBOUR: 'it returns false'. Refute it at one input. -/
def sampleSubsetsWrong : ChangeSpec := { name := "sampleSubsets", fn := fun _ => fun
  | [d1, d2, d3] => { results := [.lit (.bool false)], args := [d1, d2, d3] }
  | _ => none }
def SampleSubsetsWrongFalsely : Prop := sampleSubsetsRow.holds Try.pinned (OpenSpec.ofChange sampleSubsetsWrong)

/-- 'hushlaw11.SampleLess': WHATEVER THE INPUT: true; the input reads as it did. -/
def sampleLessSpec : ChangeSpec := { name := "sampleLess", fn := fun _ => fun
  | [d1, d2, d3, d4, d5, d6, d7] => { results := [.lit (.bool true)], args := [d1, d2, d3, d4, d5, d6, d7] }
  | _ => none }
def sampleLessRow : OpenClaim := { program := "yteajcjalpofalaa", sum := "92c08a7403fd27bd419c2b6a6f3b9f4c02dd2703010ef24f53200b003424f4a0", func := "hushhouse/hushlaw11.SampleLess", spec := "sampleLess", unfollowed := true, recurses := true, loops := true, apart := false }
def SampleLessSaid : Prop := sampleLessRow.holds Try.pinned (OpenSpec.ofChange sampleLessSpec)

/-- ITS FALSE NEIGHBOUR: 'it returns false'. Refute it at one input. -/
def sampleLessWrong : ChangeSpec := { name := "sampleLess", fn := fun _ => fun
  | [d1, d2, d3, d4, d5, d6, d7] => { results := [.lit (.bool false)], args := [d1, d2, d3, d4, d5, d6, d7] }
  | _ => none }
def SampleLessWrongFalsely : Prop := sampleLessRow.holds Try.pinned (OpenSpec.ofChange sampleLessWrong)

/- THE SECOND FORM. 'bulk': how many values and letters a reading holds, each counted each time it is reached (what is shared counts as often as it is met; a slice's spare places count too). A statement '..UptoSaid' is the law's where the arguments, and the package variables that the reading takes, are together of bulk at most 1048576: NARROWER than '..Said'. Prove '..Said' where nothing that the law and all that it calls make is longer than what came in: it says more and counts as full. Else prove '..UptoSaid'. A law counts once. -/
mutual
def uptoBulk {H : Type} : DataW H → Nat
  | .lit (.string bytes) => bytes.length + 1
  | .lit _ => 1
  | .nil => 1
  | .ptr d => uptoBulk d + 1
  | .slice elems spare => uptoBulkAll elems + uptoBulkAll spare + 1
  | .agg parts => uptoBulkAll parts + 1
  | .iface _ d => uptoBulk d + 1
  | .map entries => uptoBulkEntries entries + 1
  | .held _ => 1
def uptoBulkAll {H : Type} : List (DataW H) → Nat
  | [] => 0
  | d :: r => uptoBulk d + uptoBulkAll r
def uptoBulkEntries {H : Type} : List (Lit × DataW H) → Nat
  | [] => 0
  | x :: r => uptoBulkEntry x + uptoBulkEntries r
def uptoBulkEntry {H : Type} : Lit × DataW H → Nat
  | (.string bytes, d) => bytes.length + uptoBulk d + 1
  | (_, d) => uptoBulk d + 1
 end
def uptoSmall : (H : Type) → List (DataW H) → Bool := fun _ ds => decide (uptoBulkAll ds ≤ 1048576)
def OpenSpec.upto (s : _root_.Go.ChangeSpec) : _root_.Go.OpenSpec := { _root_.Go.OpenSpec.ofChange s with cond := some uptoSmall }

/-- 'hushlaw11.SampleSubsets', WHERE WHAT IT READS IS OF BULK AT MOST 1048576: true; the input reads as it did. -/
def sampleSubsetsUptoRow : OpenClaim := { program := "yteajcjalpofalaa", sum := "92c08a7403fd27bd419c2b6a6f3b9f4c02dd2703010ef24f53200b003424f4a0", func := "hushhouse/hushlaw11.SampleSubsets", spec := "sampleSubsets", unfollowed := true, recurses := true, apart := false, narrowed := true }
def SampleSubsetsUptoSaid : Prop := sampleSubsetsUptoRow.holds Try.pinned (OpenSpec.upto sampleSubsetsSpec)

/-- 'hushlaw11.SampleLess', WHERE WHAT IT READS IS OF BULK AT MOST 1048576: true; the input reads as it did. -/
def sampleLessUptoRow : OpenClaim := { program := "yteajcjalpofalaa", sum := "92c08a7403fd27bd419c2b6a6f3b9f4c02dd2703010ef24f53200b003424f4a0", func := "hushhouse/hushlaw11.SampleLess", spec := "sampleLess", unfollowed := true, recurses := true, loops := true, apart := false, narrowed := true }
def SampleLessUptoSaid : Prop := sampleLessUptoRow.holds Try.pinned (OpenSpec.upto sampleLessSpec)

end Rows
end Go.Proofs.Yteajcjalpofalaa

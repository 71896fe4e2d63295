/-
  No cell of these rows narrows 'for every input' (looked for: loops, veiled, ifaces, maps, wideKeys, modest, calm, conditions, laid).
  DERIVED. THE GIVEN ROWS OF THIS SEAT. 3 by the template 'for every input the law returns true; each argument reads behind the call as it read before'; 0 by the template 'total and deterministic' (their statements: YtlgdipednnkmcaaTotals.lean).
  GIVEN WITH THE SEED: the statements are not yours to turn. If you find one false, say at which input.
  Laid BY PROGRAM, IN A SANDBOX (cutbox-rows.mjs): the forced cells as the released guide's own fill.sh prints them over the translation fd4419b9a1e548dc… (all of the seat's roots in one cut). By AI agents, Wed Nov 11 2026. No macro, syntax, notation, axiom, sorry.
-/
import Derived.Test.YtlgdipednnkmcaaChecked
import GoSem.Claim
import GoSem.ClaimJoined
import GoSem.ClaimMapViews
import Derived.JoinedTies
import Derived.KernelRfl
namespace Go.Proofs.Ytlgdipednnkmcaa
/- THE CELL 'sum', in the pinned program and in every row, IS THE sha256 OF THE DUMP (.gsa) THAT YtlgdipednnkmcaaProg.lean LOADS. Nothing in Lean hashes anything: it is a label: what it is worth is what the hold of that sum in a sandbox is worth. -/
noncomputable def Try.pinned : Pinned := { name := "ytlgdipednnkmcaa", sum := "fd4419b9a1e548dcfa91e81e3ac1c255ef7113c15971570d09ace7c3dc4f19cc", checked := Try.checked }
namespace Rows
def none {H : Type} : Left H := { results := [], args := [] }

/-- 'hushlaw9.TreeFew': WHATEVER THE INPUT: true; the input reads as it did. -/
def treeFewSpec : ChangeSpec := { name := "treeFew", fn := fun _ => fun
  | [d1, d2] => { results := [.lit (.bool true)], args := [d1, d2] }
  | _ => none }
def treeFewRow : OpenClaim := { program := "ytlgdipednnkmcaa", sum := "fd4419b9a1e548dcfa91e81e3ac1c255ef7113c15971570d09ace7c3dc4f19cc", func := "hushhouse/hushlaw9.TreeFew", spec := "treeFew", apart := false }
def TreeFewSaid : Prop := treeFewRow.holds Try.pinned (OpenSpec.ofChange treeFewSpec)

/-- ITS FALSE NEIGHBOUR: 'it returns false'. Refute it at one input. -/
def treeFewWrong : ChangeSpec := { name := "treeFew", fn := fun _ => fun
  | [d1, d2] => { results := [.lit (.bool false)], args := [d1, d2] }
  | _ => none }
def TreeFewWrongFalsely : Prop := treeFewRow.holds Try.pinned (OpenSpec.ofChange treeFewWrong)

/-- 'hushlaw9.TreeSums': WHATEVER THE INPUT: true; the input reads as it did. -/
def treeSumsSpec : ChangeSpec := { name := "treeSums", fn := fun _ => fun
  | [d1, d2, d3] => { results := [.lit (.bool true)], args := [d1, d2, d3] }
  | _ => none }
def treeSumsRow : OpenClaim := { program := "ytlgdipednnkmcaa", sum := "fd4419b9a1e548dcfa91e81e3ac1c255ef7113c15971570d09ace7c3dc4f19cc", func := "hushhouse/hushlaw9.TreeSums", spec := "treeSums", apart := false }
def TreeSumsSaid : Prop := treeSumsRow.holds Try.pinned (OpenSpec.ofChange treeSumsSpec)

/-- ITS FALSE NEIGHBOUR: 'it returns false'. Refute it at one input. -/
def treeSumsWrong : ChangeSpec := { name := "treeSums", fn := fun _ => fun
  | [d1, d2, d3] => { results := [.lit (.bool false)], args := [d1, d2, d3] }
  | _ => none }
def TreeSumsWrongFalsely : Prop := treeSumsRow.holds Try.pinned (OpenSpec.ofChange treeSumsWrong)

/-- 'hushlaw9.TreeSpots': WHATEVER THE INPUT: true; the input reads as it did. -/
def treeSpotsSpec : ChangeSpec := { name := "treeSpots", fn := fun _ => fun
  | [d1, d2, d3] => { results := [.lit (.bool true)], args := [d1, d2, d3] }
  | _ => none }
def treeSpotsRow : OpenClaim := { program := "ytlgdipednnkmcaa", sum := "fd4419b9a1e548dcfa91e81e3ac1c255ef7113c15971570d09ace7c3dc4f19cc", func := "hushhouse/hushlaw9.TreeSpots", spec := "treeSpots", apart := false }
def TreeSpotsSaid : Prop := treeSpotsRow.holds Try.pinned (OpenSpec.ofChange treeSpotsSpec)

/-- ITS FALSE NEIGHBOUR: 'it returns false'. Refute it at one input. -/
def treeSpotsWrong : ChangeSpec := { name := "treeSpots", fn := fun _ => fun
  | [d1, d2, d3] => { results := [.lit (.bool false)], args := [d1, d2, d3] }
  | _ => none }
def TreeSpotsWrongFalsely : Prop := treeSpotsRow.holds Try.pinned (OpenSpec.ofChange treeSpotsWrong)

/- THE SECOND FORM. 'bulk': how many values and letters a reading holds, each counted each time it is reached (what is shared counts as often as it is met; a slice's spare places count too). A statement '..UptoSaid' is the law's where the arguments, and the package variables that the reading takes, are together of bulk at most 1048576: NARROWER than '..Said'. Prove '..Said' where nothing that the law and all that it calls make is longer than what came in: it says more and counts as full. Else prove '..UptoSaid'. A law counts once. -/
mutual
def uptoBulk {H : Type} : DataW H → Nat
  | .lit (.string bytes) => bytes.length + 1
  | .lit _ => 1
  | .nil => 1
  | .ptr d => uptoBulk d + 1
  | .slice elems spare => uptoBulkAll elems + uptoBulkAll spare + 1
  | .agg parts => uptoBulkAll parts + 1
  | .iface _ d => uptoBulk d + 1
  | .map entries => uptoBulkEntries entries + 1
  | .held _ => 1
def uptoBulkAll {H : Type} : List (DataW H) → Nat
  | [] => 0
  | d :: r => uptoBulk d + uptoBulkAll r
def uptoBulkEntries {H : Type} : List (Lit × DataW H) → Nat
  | [] => 0
  | x :: r => uptoBulkEntry x + uptoBulkEntries r
def uptoBulkEntry {H : Type} : Lit × DataW H → Nat
  | (.string bytes, d) => bytes.length + uptoBulk d + 1
  | (_, d) => uptoBulk d + 1
 end
def uptoSmall : (H : Type) → List (DataW H) → Bool := fun _ ds => decide (uptoBulkAll ds ≤ 1048576)
def OpenSpec.upto (s : _root_.Go.ChangeSpec) : _root_.Go.OpenSpec := { _root_.Go.OpenSpec.ofChange s with cond := some uptoSmall }

/-- 'hushlaw9.TreeFew', WHERE WHAT IT READS IS OF BULK AT MOST 1048576: true; the input reads as it did. -/
def treeFewUptoRow : OpenClaim := { program := "ytlgdipednnkmcaa", sum := "fd4419b9a1e548dcfa91e81e3ac1c255ef7113c15971570d09ace7c3dc4f19cc", func := "hushhouse/hushlaw9.TreeFew", spec := "treeFew", apart := false, narrowed := true }
def TreeFewUptoSaid : Prop := treeFewUptoRow.holds Try.pinned (OpenSpec.upto treeFewSpec)

/-- 'hushlaw9.TreeSums', WHERE WHAT IT READS IS OF BULK AT MOST 1048576: true; the input reads as it did. -/
def treeSumsUptoRow : OpenClaim := { program := "ytlgdipednnkmcaa", sum := "fd4419b9a1e548dcfa91e81e3ac1c255ef7113c15971570d09ace7c3dc4f19cc", func := "hushhouse/hushlaw9.TreeSums", spec := "treeSums", apart := false, narrowed := true }
def TreeSumsUptoSaid : Prop := treeSumsUptoRow.holds Try.pinned (OpenSpec.upto treeSumsSpec)

/-- 'hushlaw9.TreeSpots', WHERE WHAT IT READS IS OF BULK AT MOST 1048576: true; the input reads as it did. -/
def treeSpotsUptoRow : OpenClaim := { program := "ytlgdipednnkmcaa", sum := "fd4419b9a1e548dcfa91e81e3ac1c255ef7113c15971570d09ace7c3dc4f19cc", func := "hushhouse/hushlaw9.TreeSpots", spec := "treeSpots", apart := false, narrowed := true }
def TreeSpotsUptoSaid : Prop := treeSpotsUptoRow.holds Try.pinned (OpenSpec.upto treeSpotsSpec)

end Rows
end Go.Proofs.Ytlgdipednnkmcaa

/-
  NARROWER THAN 'FOR EVERY INPUT', by the rows' own cells (each row's printed sentence says how): NoiseAnswers: loops · NoisePrivate: loops.
  DERIVED. THE GIVEN ROWS OF THIS SEAT. 5 by the template 'for every input the law returns true; each argument reads behind the call as it read before'; 0 by the template 'total and deterministic' (their statements: YtjbgnlhgjgnclaaTotals.lean).
  GIVEN WITH THE SEED: the statements are not yours to turn. If you find one false, say at which input.
  Laid BY PROGRAM, IN A SANDBOX (cutbox-rows.mjs): the forced cells as the released guide's own fill.sh prints them over the translation 67d9fd8c37f0371f… (all of the seat's roots in one cut). By AI agents, Wed Nov 11 2026. No macro, syntax, notation, axiom, sorry.
-/
import Derived.Test.YtjbgnlhgjgnclaaChecked
import GoSem.Claim
import GoSem.ClaimJoined
import GoSem.ClaimMapViews
import Derived.JoinedTies
import Derived.KernelRfl
namespace Go.Proofs.Ytjbgnlhgjgnclaa
/- THE CELL 'sum', in the pinned program and in every row, IS THE sha256 OF THE DUMP (.gsa) THAT YtjbgnlhgjgnclaaProg.lean LOADS. Nothing in Lean hashes anything: it is a label: what it is worth is what the hold of that sum in a sandbox is worth. -/
noncomputable def Try.pinned : Pinned := { name := "ytjbgnlhgjgnclaa", sum := "67d9fd8c37f0371f7a16ffd11df60a2be2eee62d07dd2e6f503e3e0d378e3a26", checked := Try.checked }
namespace Rows
def none {H : Type} : Left H := { results := [], args := [] }

/-- 'hushlaw6.NoiseKeeps': WHATEVER THE INPUT: true; the input reads as it did. -/
def noiseKeepsSpec : ChangeSpec := { name := "noiseKeeps", fn := fun _ => fun
  | [d1, d2, d3, d4, d5] => { results := [.lit (.bool true)], args := [d1, d2, d3, d4, d5] }
  | _ => none }
def noiseKeepsRow : OpenClaim := { program := "ytjbgnlhgjgnclaa", sum := "67d9fd8c37f0371f7a16ffd11df60a2be2eee62d07dd2e6f503e3e0d378e3a26", func := "hushhouse/hushlaw6.NoiseKeeps", spec := "noiseKeeps", unfollowed := true, recurses := true, apart := false }
def NoiseKeepsSaid : Prop := noiseKeepsRow.holds Try.pinned (OpenSpec.ofChange noiseKeepsSpec)

/-- ITS FALSE NEIGHBOUR: 'it returns false'. Refute it at one input. -/
def noiseKeepsWrong : ChangeSpec := { name := "noiseKeeps", fn := fun _ => fun
  | [d1, d2, d3, d4, d5] => { results := [.lit (.bool false)], args := [d1, d2, d3, d4, d5] }
  | _ => none }
def NoiseKeepsWrongFalsely : Prop := noiseKeepsRow.holds Try.pinned (OpenSpec.ofChange noiseKeepsWrong)

/-- 'hushlaw6.NoiseHides': WHATEVER THE INPUT: true; the input reads as it did. -/
def noiseHidesSpec : ChangeSpec := { name := "noiseHides", fn := fun _ => fun
  | [d1, d2, d3, d4, d5, d6] => { results := [.lit (.bool true)], args := [d1, d2, d3, d4, d5, d6] }
  | _ => none }
def noiseHidesRow : OpenClaim := { program := "ytjbgnlhgjgnclaa", sum := "67d9fd8c37f0371f7a16ffd11df60a2be2eee62d07dd2e6f503e3e0d378e3a26", func := "hushhouse/hushlaw6.NoiseHides", spec := "noiseHides", unfollowed := true, recurses := true, apart := false }
def NoiseHidesSaid : Prop := noiseHidesRow.holds Try.pinned (OpenSpec.ofChange noiseHidesSpec)

/-- ITS FALSE NEIGHBOUR: 'it returns false'. Refute it at one input. -/
def noiseHidesWrong : ChangeSpec := { name := "noiseHides", fn := fun _ => fun
  | [d1, d2, d3, d4, d5, d6] => { results := [.lit (.bool false)], args := [d1, d2, d3, d4, d5, d6] }
  | _ => none }
def NoiseHidesWrongFalsely : Prop := noiseHidesRow.holds Try.pinned (OpenSpec.ofChange noiseHidesWrong)

/-- 'hushlaw6.NoiseSays': WHATEVER THE INPUT: true; the input reads as it did. -/
def noiseSaysSpec : ChangeSpec := { name := "noiseSays", fn := fun _ => fun
  | [d1, d2, d3, d4] => { results := [.lit (.bool true)], args := [d1, d2, d3, d4] }
  | _ => none }
def noiseSaysRow : OpenClaim := { program := "ytjbgnlhgjgnclaa", sum := "67d9fd8c37f0371f7a16ffd11df60a2be2eee62d07dd2e6f503e3e0d378e3a26", func := "hushhouse/hushlaw6.NoiseSays", spec := "noiseSays", unfollowed := true, recurses := true, apart := false }
def NoiseSaysSaid : Prop := noiseSaysRow.holds Try.pinned (OpenSpec.ofChange noiseSaysSpec)

/-- ITS FALSE NEIGHBOUR: 'it returns false'. Refute it at one input. -/
def noiseSaysWrong : ChangeSpec := { name := "noiseSays", fn := fun _ => fun
  | [d1, d2, d3, d4] => { results := [.lit (.bool false)], args := [d1, d2, d3, d4] }
  | _ => none }
def NoiseSaysWrongFalsely : Prop := noiseSaysRow.holds Try.pinned (OpenSpec.ofChange noiseSaysWrong)

/-- 'hushlaw6.NoiseAnswers': WHATEVER THE INPUT: true; the input reads as it did. -/
def noiseAnswersSpec : ChangeSpec := { name := "noiseAnswers", fn := fun _ => fun
  | [d1, d2, d3, d4, d5] => { results := [.lit (.bool true)], args := [d1, d2, d3, d4, d5] }
  | _ => none }
def noiseAnswersRow : OpenClaim := { program := "ytjbgnlhgjgnclaa", sum := "67d9fd8c37f0371f7a16ffd11df60a2be2eee62d07dd2e6f503e3e0d378e3a26", func := "hushhouse/hushlaw6.NoiseAnswers", spec := "noiseAnswers", unfollowed := true, recurses := true, loops := true, apart := false }
def NoiseAnswersSaid : Prop := noiseAnswersRow.holds Try.pinned (OpenSpec.ofChange noiseAnswersSpec)

/-- ITS FALSE NEIGHBOUR: 'it returns false'. Refute it at one input. -/
def noiseAnswersWrong : ChangeSpec := { name := "noiseAnswers", fn := fun _ => fun
  | [d1, d2, d3, d4, d5] => { results := [.lit (.bool false)], args := [d1, d2, d3, d4, d5] }
  | _ => none }
def NoiseAnswersWrongFalsely : Prop := noiseAnswersRow.holds Try.pinned (OpenSpec.ofChange noiseAnswersWrong)

/-- 'hushlaw6.NoisePrivate': WHATEVER THE INPUT: true; the input reads as it did. -/
def noisePrivateSpec : ChangeSpec := { name := "noisePrivate", fn := fun _ => fun
  | [d1, d2, d3, d4, d5, d6] => { results := [.lit (.bool true)], args := [d1, d2, d3, d4, d5, d6] }
  | _ => none }
def noisePrivateRow : OpenClaim := { program := "ytjbgnlhgjgnclaa", sum := "67d9fd8c37f0371f7a16ffd11df60a2be2eee62d07dd2e6f503e3e0d378e3a26", func := "hushhouse/hushlaw6.NoisePrivate", spec := "noisePrivate", unfollowed := true, recurses := true, loops := true, apart := false }
def NoisePrivateSaid : Prop := noisePrivateRow.holds Try.pinned (OpenSpec.ofChange noisePrivateSpec)

/-- ITS FALSE NEIGHBOUR: 'it returns false'. Refute it at one input. -/
def noisePrivateWrong : ChangeSpec := { name := "noisePrivate", fn := fun _ => fun
  | [d1, d2, d3, d4, d5, d6] => { results := [.lit (.bool false)], args := [d1, d2, d3, d4, d5, d6] }
  | _ => none }
def NoisePrivateWrongFalsely : Prop := noisePrivateRow.holds Try.pinned (OpenSpec.ofChange noisePrivateWrong)

/- THE SECOND FORM. 'bulk': how many values and letters a reading holds, each counted each time it is reached (what is shared counts as often as it is met; a slice's spare places count too). A statement '..UptoSaid' is the law's where the arguments, and the package variables that the reading takes, are together of bulk at most 1048576: NARROWER than '..Said'. Prove '..Said' where nothing that the law and all that it calls make is longer than what came in: it says more and counts as full. Else prove '..UptoSaid'. A law counts once. -/
mutual
def uptoBulk {H : Type} : DataW H → Nat
  | .lit (.string bytes) => bytes.length + 1
  | .lit _ => 1
  | .nil => 1
  | .ptr d => uptoBulk d + 1
  | .slice elems spare => uptoBulkAll elems + uptoBulkAll spare + 1
  | .agg parts => uptoBulkAll parts + 1
  | .iface _ d => uptoBulk d + 1
  | .map entries => uptoBulkEntries entries + 1
  | .held _ => 1
def uptoBulkAll {H : Type} : List (DataW H) → Nat
  | [] => 0
  | d :: r => uptoBulk d + uptoBulkAll r
def uptoBulkEntries {H : Type} : List (Lit × DataW H) → Nat
  | [] => 0
  | x :: r => uptoBulkEntry x + uptoBulkEntries r
def uptoBulkEntry {H : Type} : Lit × DataW H → Nat
  | (.string bytes, d) => bytes.length + uptoBulk d + 1
  | (_, d) => uptoBulk d + 1
 end
def uptoSmall : (H : Type) → List (DataW H) → Bool := fun _ ds => decide (uptoBulkAll ds ≤ 1048576)
def OpenSpec.upto (s : _root_.Go.ChangeSpec) : _root_.Go.OpenSpec := { _root_.Go.OpenSpec.ofChange s with cond := some uptoSmall }

/-- 'hushlaw6.NoiseKeeps', WHERE WHAT IT READS IS OF BULK AT MOST 1048576: true; the input reads as it did. -/
def noiseKeepsUptoRow : OpenClaim := { program := "ytjbgnlhgjgnclaa", sum := "67d9fd8c37f0371f7a16ffd11df60a2be2eee62d07dd2e6f503e3e0d378e3a26", func := "hushhouse/hushlaw6.NoiseKeeps", spec := "noiseKeeps", unfollowed := true, recurses := true, apart := false, narrowed := true }
def NoiseKeepsUptoSaid : Prop := noiseKeepsUptoRow.holds Try.pinned (OpenSpec.upto noiseKeepsSpec)

/-- 'hushlaw6.NoiseHides', WHERE WHAT IT READS IS OF BULK AT MOST 1048576: true; the input reads as it did. -/
def noiseHidesUptoRow : OpenClaim := { program := "ytjbgnlhgjgnclaa", sum := "67d9fd8c37f0371f7a16ffd11df60a2be2eee62d07dd2e6f503e3e0d378e3a26", func := "hushhouse/hushlaw6.NoiseHides", spec := "noiseHides", unfollowed := true, recurses := true, apart := false, narrowed := true }
def NoiseHidesUptoSaid : Prop := noiseHidesUptoRow.holds Try.pinned (OpenSpec.upto noiseHidesSpec)

/-- 'hushlaw6.NoiseSays', WHERE WHAT IT READS IS OF BULK AT MOST 1048576: true; the input reads as it did. -/
def noiseSaysUptoRow : OpenClaim := { program := "ytjbgnlhgjgnclaa", sum := "67d9fd8c37f0371f7a16ffd11df60a2be2eee62d07dd2e6f503e3e0d378e3a26", func := "hushhouse/hushlaw6.NoiseSays", spec := "noiseSays", unfollowed := true, recurses := true, apart := false, narrowed := true }
def NoiseSaysUptoSaid : Prop := noiseSaysUptoRow.holds Try.pinned (OpenSpec.upto noiseSaysSpec)

/-- 'hushlaw6.NoiseAnswers', WHERE WHAT IT READS IS OF BULK AT MOST 1048576: true; the input reads as it did. -/
def noiseAnswersUptoRow : OpenClaim := { program := "ytjbgnlhgjgnclaa", sum := "67d9fd8c37f0371f7a16ffd11df60a2be2eee62d07dd2e6f503e3e0d378e3a26", func := "hushhouse/hushlaw6.NoiseAnswers", spec := "noiseAnswers", unfollowed := true, recurses := true, loops := true, apart := false, narrowed := true }
def NoiseAnswersUptoSaid : Prop := noiseAnswersUptoRow.holds Try.pinned (OpenSpec.upto noiseAnswersSpec)

/-- 'hushlaw6.NoisePrivate', WHERE WHAT IT READS IS OF BULK AT MOST 1048576: true; the input reads as it did. -/
def noisePrivateUptoRow : OpenClaim := { program := "ytjbgnlhgjgnclaa", sum := "67d9fd8c37f0371f7a16ffd11df60a2be2eee62d07dd2e6f503e3e0d378e3a26", func := "hushhouse/hushlaw6.NoisePrivate", spec := "noisePrivate", unfollowed := true, recurses := true, loops := true, apart := false, narrowed := true }
def NoisePrivateUptoSaid : Prop := noisePrivateUptoRow.holds Try.pinned (OpenSpec.upto noisePrivateSpec)

end Rows
end Go.Proofs.Ytjbgnlhgjgnclaa

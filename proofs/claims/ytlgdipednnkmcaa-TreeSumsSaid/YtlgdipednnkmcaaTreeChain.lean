/- The nodes of a cover stand one behind the other, checked one by one. Conditions: height at most 10, time within it. -/
import Derived.Test.YtlgdipednnkmcaaTreeCheck
namespace Go.Proofs.Ytlgdipednnkmcaa.TreeCheck
set_option linter.unusedVariables false
open Go.RowKit Go.Proofs.Ytlgdipednnkmcaa.PA Go.Proofs.YtlgdipednnkmcaaW.PrintWords Go.Proofs.YtlgdipednnkmcaaW.PrintLast Go.Proofs.YtlgdipednnkmcaaW.PrintMore Go.Proofs.YtlgdipednnkmcaaW.EvKit

/-- From a step on: each node begins where the one ahead ends; the last one ends at the time. -/
def chain (n : Nat) : List S29 → Nat → Nat → Bool
  | [], at_, t => at_ == t
  | s :: l, at_, t => decide (0 ≤ s.f0) && decide (s.f0 ≤ n) && (s.f1 * ((2 ^ s.f0.toNat : Nat) : Int) == (at_ : Int)) && decide (0 ≤ s.f1) && chain n l (at_ + 2 ^ s.f0.toNat) t
def okChain (n t : Nat) : Bool :=
  match tree_Cover.f 40 (n : Int) (t : Int) with
  | some (l, e) => chain n l 0 t && (e == 0) && decide (l.length ≤ 11)
  | none => false
theorem h0 : upto (okChain 0) 2 = true := by decide +kernel
theorem h1 : upto (okChain 1) 3 = true := by decide +kernel
theorem h2 : upto (okChain 2) 5 = true := by decide +kernel
theorem h3 : upto (okChain 3) 9 = true := by decide +kernel
theorem h4 : upto (okChain 4) 17 = true := by decide +kernel
theorem h5 : upto (okChain 5) 33 = true := by decide +kernel
theorem h6 : upto (okChain 6) 65 = true := by decide +kernel
theorem h7 : upto (okChain 7) 129 = true := by decide +kernel
theorem h8 : upto (okChain 8) 257 = true := by decide +kernel
theorem h9 : upto (okChain 9) 513 = true := by decide +kernel
theorem h10 : upto (okChain 10) 1025 = true := by decide +kernel
theorem chain_ok (n : Nat) (hn : n < 11) (t : Nat) (ht : t < 2 ^ n + 1) : okChain n t = true := by
  match n, hn with
  | 0, _ => exact upto_get _ _ h0 t ht
  | 1, _ => exact upto_get _ _ h1 t ht
  | 2, _ => exact upto_get _ _ h2 t ht
  | 3, _ => exact upto_get _ _ h3 t ht
  | 4, _ => exact upto_get _ _ h4 t ht
  | 5, _ => exact upto_get _ _ h5 t ht
  | 6, _ => exact upto_get _ _ h6 t ht
  | 7, _ => exact upto_get _ _ h7 t ht
  | 8, _ => exact upto_get _ _ h8 t ht
  | 9, _ => exact upto_get _ _ h9 t ht
  | 10, _ => exact upto_get _ _ h10 t ht

theorem cover_chain (n : Nat) (hn : n < 11) (t : Nat) (ht : t < 2 ^ n + 1) : ∃ l, Ev (fun k => tree_Cover.f k (n : Int) (t : Int)) (l, 0) ∧ chain n l 0 t = true ∧ l.length ≤ 11 := by
  have hc := chain_ok n hn t ht
  unfold okChain at hc
  split at hc
  · rename_i l e h1
    simp only [Bool.and_eq_true, beq_iff_eq, decide_eq_true_eq] at hc
    obtain ⟨⟨q1, rfl⟩, q3⟩ := hc
    exact ⟨l, Ev.of (tree_Cover.mono _ _) h1, q1, q3⟩
  · cases hc
end Go.Proofs.Ytlgdipednnkmcaa.TreeCheck

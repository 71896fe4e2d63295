/- Covers and spots of the program and of the reference are the same, whatever is asked. Conditions: none. -/
import Derived.Test.YtlgdipednnkmcaaTreeCheck
namespace Go.Proofs.Ytlgdipednnkmcaa.TreeCheck
open Go.RowKit Go.Proofs.Ytlgdipednnkmcaa.PA Go.Proofs.YtlgdipednnkmcaaW.PrintWords Go.Proofs.YtlgdipednnkmcaaW.PrintLast Go.Proofs.YtlgdipednnkmcaaW.PrintMore Go.Proofs.YtlgdipednnkmcaaW.EvKit

/-- Both covers. -/
theorem cover_both (h t : Int) : ∃ l e, Ev (fun k => tree_Cover.f k h t) (l, e) ∧ Ev (fun k => hushref9_Cover.f k h t) (l, e) ∧ l.length ≤ 11 ∧ (e = 0 → fits t l = true ∧ t ≤ 1024) ∧ (e = 0 ∨ e = 3) := by
  by_cases ho : h < 0 ∨ h > 10
  · refine ⟨[], 3, ?_, ?_, by simp, by simp, .inr rfl⟩
    · exact Ev.bind (Ev.const (wrongHigh_out ho)) (Ev.neg (by decide) (Ev.ret _))
    · rcases ho with h0 | h0
      · exact Ev.pos h0 (Ev.step (fun k => hushref9_Cover.j0.eq_2 _ _ _ k) (Ev.pos rfl (Ev.ret _)))
      · exact Ev.neg (by omega) (Ev.pos h0 (Ev.step (fun k => hushref9_Cover.j0.eq_2 _ _ _ k) (Ev.pos rfl (Ev.ret _))))
  · obtain ⟨n, rfl⟩ : ∃ n : Nat, h = n := ⟨h.toNat, by omega⟩
    have hn : n < 11 := by omega
    have hw := wrongHigh_in (h := (n : Int)) (by omega) (by omega)
    have hs := shls ⟨n, hn⟩
    have hs' : shl .i64 1 (n : Int) = ((2 ^ n : Nat) : Int) := hs
    have hl := long_ev n hn
    by_cases h0 : t < 0
    · refine ⟨[], 3, ?_, ?_, by simp, by simp, .inr rfl⟩
      · exact Ev.bind (Ev.const hw) (Ev.pos rfl (Ev.pos h0 (Ev.step (fun k => tree_Cover.j0.eq_2 _ _ _ k) (Ev.pos rfl (Ev.ret _)))))
      · exact Ev.neg (by omega) (Ev.neg (by omega) (Ev.pos h0 (Ev.step (fun k => hushref9_Cover.j0.eq_2 _ _ _ k) (Ev.pos rfl (Ev.ret _)))))
    · by_cases h1 : t > ((2 ^ n : Nat) : Int)
      · refine ⟨[], 3, ?_, ?_, by simp, by simp, .inr rfl⟩
        · refine Ev.bind (Ev.const hw) (Ev.pos rfl (Ev.neg h0 (Ev.pos (by omega) ?_)))
          rw [hs']
          exact Ev.step (fun k => tree_Cover.j0.eq_2 _ _ _ k) (Ev.pos (decide_eq_true h1) (Ev.ret _))
        · refine Ev.neg (by omega) (Ev.neg (by omega) (Ev.neg h0 (Ev.bind hl ?_)))
          exact Ev.step (fun k => hushref9_Cover.j0.eq_2 _ _ _ k) (Ev.pos (decide_eq_true h1) (Ev.ret _))
      · obtain ⟨m, rfl⟩ : ∃ m : Nat, t = m := ⟨t.toNat, by omega⟩
        have hc := cover_ok n hn m (by omega)
        unfold okCover at hc
        split at hc
        · rename_i l e l' e' h1 h2
          simp only [Bool.and_eq_true, beq_iff_eq, decide_eq_true_eq] at hc
          obtain ⟨⟨⟨⟨q1, rfl⟩, rfl⟩, q2⟩, q3⟩ := hc
          have := same29_eq q1
          subst this
          exact ⟨l, 0, Ev.of (tree_Cover.mono _ _) h1, Ev.of (hushref9_Cover.mono _ _) h2, q3, fun _ => ⟨q2, by have : 2 ^ n ≤ 2 ^ 10 := Nat.pow_le_pow_right (by decide) (by omega); omega⟩, .inl rfl⟩
        · cases hc

/-- Both spots. -/
theorem spots_both (h t : Int) : ∃ l e, Ev (fun k => tree_Spots.f k h t) (l, e) ∧ Ev (fun k => hushref9_Spots.f k h t) (l, e) ∧ l.length ≤ 11 := by
  by_cases ho : h < 0 ∨ h > 10
  · refine ⟨[], 3, ?_, ?_, by simp⟩
    · exact Ev.bind (Ev.const (wrongHigh_out ho)) (Ev.neg (by decide) (Ev.ret _))
    · rcases ho with h0 | h0
      · exact Ev.pos h0 (Ev.step (fun k => hushref9_Spots.j0.eq_2 _ _ _ k) (Ev.pos rfl (Ev.ret _)))
      · exact Ev.neg (by omega) (Ev.pos h0 (Ev.step (fun k => hushref9_Spots.j0.eq_2 _ _ _ k) (Ev.pos rfl (Ev.ret _))))
  · obtain ⟨n, rfl⟩ : ∃ n : Nat, h = n := ⟨h.toNat, by omega⟩
    have hn : n < 11 := by omega
    have hw := wrongHigh_in (h := (n : Int)) (by omega) (by omega)
    have hs := shls ⟨n, hn⟩
    have hs' : shl .i64 1 (n : Int) = ((2 ^ n : Nat) : Int) := hs
    have hl := long_ev n hn
    by_cases h0 : t < 0
    · refine ⟨[], 3, ?_, ?_, by simp⟩
      · exact Ev.bind (Ev.const hw) (Ev.pos rfl (Ev.pos h0 (Ev.step (fun k => tree_Spots.j0.eq_2 _ _ _ k) (Ev.pos rfl (Ev.ret _)))))
      · exact Ev.neg (by omega) (Ev.neg (by omega) (Ev.pos h0 (Ev.step (fun k => hushref9_Spots.j0.eq_2 _ _ _ k) (Ev.pos rfl (Ev.ret _)))))
    · by_cases h1 : t ≥ ((2 ^ n : Nat) : Int)
      · refine ⟨[], 3, ?_, ?_, by simp⟩
        · refine Ev.bind (Ev.const hw) (Ev.pos rfl (Ev.neg h0 (Ev.pos (by omega) ?_)))
          rw [hs']
          exact Ev.step (fun k => tree_Spots.j0.eq_2 _ _ _ k) (Ev.pos (decide_eq_true h1) (Ev.ret _))
        · refine Ev.neg (by omega) (Ev.neg (by omega) (Ev.neg h0 (Ev.bind hl ?_)))
          exact Ev.step (fun k => hushref9_Spots.j0.eq_2 _ _ _ k) (Ev.pos (decide_eq_true h1) (Ev.ret _))
      · obtain ⟨m, rfl⟩ : ∃ m : Nat, t = m := ⟨t.toNat, by omega⟩
        have hc := spots_ok n hn m (by omega)
        unfold okSpots at hc
        split at hc
        · rename_i l e l' e' h1 h2
          simp only [Bool.and_eq_true, beq_iff_eq, decide_eq_true_eq] at hc
          obtain ⟨⟨q1, rfl⟩, q3⟩ := hc
          have := same29_eq q1
          subst this
          exact ⟨l, e, Ev.of (tree_Spots.mono _ _) h1, Ev.of (hushref9_Spots.mono _ _) h2, q3⟩
        · cases hc
end Go.Proofs.Ytlgdipednnkmcaa.TreeCheck

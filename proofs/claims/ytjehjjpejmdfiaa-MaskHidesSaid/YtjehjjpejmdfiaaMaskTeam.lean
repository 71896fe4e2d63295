/- What is told of a team of the mask, and the remainder. Conditions stand in each theorem. -/
import Derived.Test.YtjehjjpejmdfiaaEvKit
import Derived.Test.YtjehjjpejmdfiaaFAx9
import Derived.Test.YtjehjjpejmdfiaaFAx10
namespace Go.Proofs.Ytjehjjpejmdfiaa.Pure
set_option linter.unusedVariables false
set_option linter.unusedSimpArgs false
open Go.RowKit Go.Proofs.Ytjehjjpejmdfiaa.PA Go.Proofs.YtjehjjpejmdfiaaW.PrintWords Go.Proofs.YtjehjjpejmdfiaaW.PrintLast Go.Proofs.YtjehjjpejmdfiaaW.PrintMore Go.Proofs.YtjehjjpejmdfiaaW.EvKit

attribute [local simp] Option.bind_some
theorem tmod_in (a m : Int) (hm : 2 ≤ m) : -m < a.tmod m ∧ a.tmod m < m ∧ a % m = (a.tmod m) % m := by
  refine ⟨Int.lt_tmod_of_pos a (by omega), Int.tmod_lt_of_pos a (by omega), ?_⟩
  have h := Int.mul_tdiv_add_tmod a m
  generalize a.tdiv m = q at h
  generalize a.tmod m = t at h ⊢
  rw [← h, Int.mul_add_emod_self_left]

theorem mod_prog (m a : Int) (hm : 2 ≤ m) (hm2 : m ≤ 1073741824) : mask_ring_mod.f m a = some (a % m) := by
  obtain ⟨h1, h2, h3⟩ := tmod_in a m hm
  unfold mask_ring_mod.f
  rw [if_neg (by omega), h3]
  generalize a.tmod m = t at h1 h2
  by_cases h : t < 0
  · rw [if_pos h, wrap64_of (by omega) (by omega), ← Int.add_emod_right t m, Int.emod_eq_of_lt (by omega) (by omega)]
  · rw [if_neg h, Int.emod_eq_of_lt (by omega) (by omega)]

theorem mod_ref (m a : Int) (hm : 2 ≤ m) (hm2 : m ≤ 1073741824) : hushref12_Mod.f a m = some (a % m) := by
  obtain ⟨h1, h2, h3⟩ := tmod_in a m hm
  unfold hushref12_Mod.f
  rw [if_neg (by omega), h3]
  generalize a.tmod m = t at h1 h2
  rw [wrap64_of (by omega) (by omega), Int.tmod_eq_emod_of_nonneg (by omega), Int.add_emod_right]

def teamV (m n : Int) : Int := if m < 2 ∨ m > 1073741824 then 3 else if n < 1 ∨ n > 16 then 5 else 0

theorem team_prog (m n : Int) : mask_team.F m n = some (teamV m n) := by
  rw [mask_team.F_eq]
  unfold teamV
  by_cases h1 : m < 2
  · simp (disch := omega) only [↓if_pos, ↓if_neg, if_true, if_false, decide_eq_true_eq, Bool.false_eq_true, Bool.not_true, Bool.not_false, Bool.not_eq_true, Bool.true_eq, eq_self, Option.bind_some, Option.bind_none, beq_iff_eq, bne_iff_ne, ne_eq, not_true_eq_false, not_false_eq_true, mask_team.J0_eq]
  · by_cases h2 : m > 1073741824
    · simp (disch := omega) only [↓if_pos, ↓if_neg, if_true, if_false, decide_eq_true_eq, Bool.false_eq_true, Bool.not_true, Bool.not_false, Bool.not_eq_true, Bool.true_eq, eq_self, Option.bind_some, Option.bind_none, beq_iff_eq, bne_iff_ne, ne_eq, not_true_eq_false, not_false_eq_true, mask_team.J0_eq]
    · by_cases h3 : n < 1
      · simp (disch := omega) only [↓if_pos, ↓if_neg, if_true, if_false, decide_eq_true_eq, Bool.false_eq_true, Bool.not_true, Bool.not_false, Bool.not_eq_true, Bool.true_eq, eq_self, Option.bind_some, Option.bind_none, beq_iff_eq, bne_iff_ne, ne_eq, not_true_eq_false, not_false_eq_true, mask_team.J0_eq]
      · by_cases h4 : n > 16 <;> simp (disch := omega) only [↓if_pos, ↓if_neg, if_true, if_false, decide_eq_true_eq, Bool.false_eq_true, Bool.not_true, Bool.not_false, Bool.not_eq_true, Bool.true_eq, eq_self, Option.bind_some, Option.bind_none, beq_iff_eq, bne_iff_ne, ne_eq, not_true_eq_false, not_false_eq_true, mask_team.J0_eq]

theorem team_ref (m n : Int) : hushref12_team.F m n = some (teamV m n) := by
  rw [hushref12_team.F_eq]
  unfold teamV
  by_cases h1 : m < 2
  · simp (disch := omega) only [↓if_pos, ↓if_neg, if_true, if_false, decide_eq_true_eq, Bool.false_eq_true, Bool.not_true, Bool.not_false, Bool.not_eq_true, Bool.true_eq, eq_self, Option.bind_some, Option.bind_none, beq_iff_eq, bne_iff_ne, ne_eq, not_true_eq_false, not_false_eq_true, hushref12_team.J0_eq]
  · by_cases h2 : m > 1073741824
    · simp (disch := omega) only [↓if_pos, ↓if_neg, if_true, if_false, decide_eq_true_eq, Bool.false_eq_true, Bool.not_true, Bool.not_false, Bool.not_eq_true, Bool.true_eq, eq_self, Option.bind_some, Option.bind_none, beq_iff_eq, bne_iff_ne, ne_eq, not_true_eq_false, not_false_eq_true, hushref12_team.J0_eq]
    · by_cases h3 : n < 1
      · simp (disch := omega) only [↓if_pos, ↓if_neg, if_true, if_false, decide_eq_true_eq, Bool.false_eq_true, Bool.not_true, Bool.not_false, Bool.not_eq_true, Bool.true_eq, eq_self, Option.bind_some, Option.bind_none, beq_iff_eq, bne_iff_ne, ne_eq, not_true_eq_false, not_false_eq_true, hushref12_team.J0_eq]
      · by_cases h4 : n > 16 <;> simp (disch := omega) only [↓if_pos, ↓if_neg, if_true, if_false, decide_eq_true_eq, Bool.false_eq_true, Bool.not_true, Bool.not_false, Bool.not_eq_true, Bool.true_eq, eq_self, Option.bind_some, Option.bind_none, beq_iff_eq, bne_iff_ne, ne_eq, not_true_eq_false, not_false_eq_true, hushref12_team.J0_eq]

theorem teamV_zero {m n : Int} (h : teamV m n = 0) : 2 ≤ m ∧ m ≤ 1073741824 ∧ 1 ≤ n ∧ n ≤ 16 := by
  unfold teamV at h
  split at h
  · omega
  · split at h <;> omega

theorem in_iff (m x : Int) : mask_Mask.in_ m x = true ↔ 0 ≤ x ∧ x < m := by
  unfold mask_Mask.in_
  rw [Bool.and_eq_true, decide_eq_true_eq, decide_eq_true_eq]

theorem in_no (m x : Int) (h : ¬ (0 ≤ x ∧ x < m)) : mask_Mask.in_ m x = false := by
  cases e : mask_Mask.in_ m x with
  | false => rfl
  | true => exact absurd ((in_iff m x).1 e) h
end Go.Proofs.Ytjehjjpejmdfiaa.Pure

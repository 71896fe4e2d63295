/- mask.Sum and its reference are one function. Conditions stand in each theorem. -/
import Derived.Test.YtjehjjpejmdfiaaMaskMask
namespace Go.Proofs.Ytjehjjpejmdfiaa.Pure
set_option linter.unusedVariables false
set_option linter.unusedSimpArgs false
open Go.RowKit Go.Proofs.Ytjehjjpejmdfiaa.PA Go.Proofs.YtjehjjpejmdfiaaW.PrintWords Go.Proofs.YtjehjjpejmdfiaaW.PrintLast Go.Proofs.YtjehjjpejmdfiaaW.PrintMore Go.Proofs.YtjehjjpejmdfiaaW.EvKit

def inS (m : Int) (l2 : List Bool) (row : List Int) (i : Nat) : Nat → Nat → Int → Option Int
  | 0, _, S => some S
  | d + 1, j, S => if rdOf false l2 (j : Int) = true ∨ j = i then inS m l2 row i d (j + 1) S else if 0 ≤ rd row (j : Int) ∧ rd row (j : Int) < m then inS m l2 row i d (j + 1) (if i < j then S - rd row (j : Int) else S + rd row (j : Int)) else none
def outS (m : Int) (n : Nat) (l1 : List Int) (l2 : List Bool) (l3 : List (List Int)) : Nat → Nat → Int → Int × Int
  | 0, _, S => (S % m, 0)
  | d + 1, i, S => if rdOf false l2 (i : Int) = true then (if (rd_L1 l3 (i : Int)).length = n then (if 0 ≤ rd l1 (i : Int) ∧ rd l1 (i : Int) < m then (match inS m l2 (rd_L1 l3 (i : Int)) i n 0 (S + rd l1 (i : Int)) with | none => (0, 3) | some S' => outS m n l1 l2 l3 d (i + 1) S') else (0, 3)) else (0, 8)) else outS m n l1 l2 l3 d (i + 1) S

theorem inS_bound (m : Int) (hm2 : m ≤ 1073741824) (l2 : List Bool) (row : List Int) (i : Nat) (d : Nat) : ∀ (j : Nat) (S S' : Int), inS m l2 row i d j S = some S' → S - d * 1073741824 ≤ S' ∧ S' ≤ S + d * 1073741824 := by
  induction d with
  | zero => intro j S S' h; simp only [inS, Option.some.injEq] at h; omega
  | succ d ih =>
    intro j S S' h
    rw [inS] at h
    split at h
    · have := ih _ _ _ h; omega
    · split at h
      · have := ih _ _ _ h
        split at this <;> omega
      · cases h

theorem prog_in (m : Int) (hm1 : 2 ≤ m) (hm2 : m ≤ 1073741824) (l1 : List Int) (l2 : List Bool) (l3 : List (List Int)) (h2 : l2.length = l1.length) (hn : l1.length ≤ 16) (row : List Int) (hr : row.length = l1.length) (i : Nat) (hi : i < l1.length) (d : Nat) :
    ∀ (j : Nat) (S : Int), j + d = l1.length → -1099511627776 + (d : Int) * 1073741824 ≤ S → S ≤ 1099511627776 - (d : Int) * 1073741824 →
      mask_Sum.L1 l1 l2 l3 m S (i : Int) l1 (l1.length : Int) (i : Int) row (row.length : Int) (j : Int) = match inS m l2 row i d j S with | none => some (0, 3) | some S' => mask_Sum.L0 l1 l2 l3 m S' l1 (l1.length : Int) ((i + 1 : Nat) : Int) := by
  induction d with
  | zero =>
    intro j S hj h3 h4
    rw [mask_Sum.L1_eq, inS]
    clear h3 h4
    simp (disch := omega) only [↓if_pos, ↓if_neg, if_true, if_false, decide_eq_true_eq, Bool.false_eq_true, Bool.not_true, Bool.not_false, Bool.not_eq_true, Bool.true_eq, eq_self, Option.bind_some, Option.bind_none, beq_iff_eq, bne_iff_ne, ne_eq, not_true_eq_false, not_false_eq_true, wrap64_of, castS]
  | succ d ih =>
    intro j S hj h3 h4
    have ihS := ih (j + 1) S (by omega) (by omega) (by omega)
    have ih1 := ih (j + 1) (S - rd row (j : Int)) (by omega)
    have ih2 := ih (j + 1) (S + rd row (j : Int)) (by omega)
    clear ih
    rw [inS]
    have hj1 : (j : Int) < (row.length : Int) := by omega
    have hj2 : (j : Int) < (l2.length : Int) := by omega
    generalize hs' : rd row (j : Int) = s at ih1 ih2 ⊢
    by_cases hT : rdOf false l2 (j : Int) = true
    · rw [if_pos (Or.inl hT), ← ihS]
      clear h3 h4 ih1 ih2 ihS
      rw [mask_Sum.L1_eq]
      simp (disch := omega) only [↓if_pos, ↓if_neg, if_true, if_false, decide_eq_true_eq, Bool.false_eq_true, Bool.not_true, Bool.not_false, Bool.not_eq_true, Bool.true_eq, eq_self, Option.bind_some, Option.bind_none, beq_iff_eq, bne_iff_ne, ne_eq, not_true_eq_false, not_false_eq_true, wrap64_of, castS, mask_Sum.J3_eq, hT]
    · by_cases hji : j = i
      · rw [if_pos (Or.inr hji), ← ihS]
        clear h3 h4 ih1 ih2 ihS
        have hji' : ((j : Int) = (i : Int)) := by omega
        rw [mask_Sum.L1_eq]
        simp (disch := omega) only [↓if_pos, ↓if_neg, if_true, if_false, decide_eq_true_eq, Bool.false_eq_true, Bool.not_true, Bool.not_false, Bool.not_eq_true, Bool.true_eq, eq_self, Option.bind_some, Option.bind_none, beq_iff_eq, bne_iff_ne, ne_eq, not_true_eq_false, not_false_eq_true, wrap64_of, castS, mask_Sum.J3_eq, hT]
      · rw [if_neg (by rintro (h | h); exact hT h; exact hji h)]
        have hb : ¬ ((j : Int) = (i : Int)) := by omega
        by_cases hs : 0 ≤ s ∧ s < m
        · obtain ⟨hs1, hs2⟩ := hs
          rw [if_pos ⟨hs1, hs2⟩]
          have hh := mask_Mask.holds_f m s
          rw [(in_iff m s).2 ⟨hs1, hs2⟩] at hh
          by_cases hlt : i < j
          · rw [if_pos hlt, ← ih1 (by omega) (by omega)]
            have hw : wrap64 (S - s) = S - s := wrap64_of (by omega) (by omega)
            clear h3 h4 ih1 ih2 ihS
            rw [mask_Sum.L1_eq]
            simp (disch := omega) only [↓if_pos, ↓if_neg, if_true, if_false, decide_eq_true_eq, Bool.false_eq_true, Bool.not_true, Bool.not_false, Bool.not_eq_true, Bool.true_eq, eq_self, Option.bind_some, Option.bind_none, beq_iff_eq, bne_iff_ne, ne_eq, not_true_eq_false, not_false_eq_true, wrap64_of, castS, mask_Sum.J3_eq, hT, hs', hh, hw]
          · rw [if_neg hlt, ← ih2 (by omega) (by omega)]
            have hw : wrap64 (S + s) = S + s := wrap64_of (by omega) (by omega)
            clear h3 h4 ih1 ih2 ihS
            rw [mask_Sum.L1_eq]
            simp (disch := omega) only [↓if_pos, ↓if_neg, if_true, if_false, decide_eq_true_eq, Bool.false_eq_true, Bool.not_true, Bool.not_false, Bool.not_eq_true, Bool.true_eq, eq_self, Option.bind_some, Option.bind_none, beq_iff_eq, bne_iff_ne, ne_eq, not_true_eq_false, not_false_eq_true, wrap64_of, castS, mask_Sum.J3_eq, hT, hs', hh, hw]
        · rw [if_neg hs]
          have hh := mask_Mask.holds_f m s
          rw [in_no m s hs] at hh
          clear h3 h4 ih1 ih2 ihS hs
          rw [mask_Sum.L1_eq]
          simp (disch := omega) only [↓if_pos, ↓if_neg, if_true, if_false, decide_eq_true_eq, Bool.false_eq_true, Bool.not_true, Bool.not_false, Bool.not_eq_true, Bool.true_eq, eq_self, Option.bind_some, Option.bind_none, beq_iff_eq, bne_iff_ne, ne_eq, not_true_eq_false, not_false_eq_true, wrap64_of, castS, mask_Sum.J3_eq, hT, hs', hh]

theorem ref_in (m : Int) (hm1 : 2 ≤ m) (hm2 : m ≤ 1073741824) (l1 : List Int) (l2 : List Bool) (l3 : List (List Int)) (h2 : l2.length = l1.length) (h3' : l3.length = l1.length) (hn : l1.length ≤ 16) (i : Nat) (hi : i < l1.length) (row : List Int) (hrow : rd_L1 l3 (i : Int) = row) (hr : row.length = l1.length) (d : Nat) :
    ∀ (j : Nat) (S : Int), j + d = l1.length →
      hushref12_Sum.L1 m l1 l2 l3 (S % m) (i : Int) (l1.length : Int) (i : Int) (l1.length : Int) (j : Int) = match inS m l2 row i d j S with | none => some (0, 3) | some S' => hushref12_Sum.L0 m l1 l2 l3 (S' % m) (l1.length : Int) ((i + 1 : Nat) : Int) := by
  induction d with
  | zero =>
    intro j S hj
    rw [hushref12_Sum.L1_eq, inS]
    simp (disch := omega) only [↓if_pos, ↓if_neg, if_true, if_false, decide_eq_true_eq, Bool.false_eq_true, Bool.not_true, Bool.not_false, Bool.not_eq_true, Bool.true_eq, eq_self, Option.bind_some, Option.bind_none, beq_iff_eq, bne_iff_ne, ne_eq, not_true_eq_false, not_false_eq_true, wrap64_of, castS]
  | succ d ih =>
    intro j S hj
    have ihS := ih (j + 1) S (by omega)
    have ih1 := ih (j + 1) (S - rd row (j : Int)) (by omega)
    have ih2 := ih (j + 1) (S + rd row (j : Int)) (by omega)
    clear ih
    rw [inS]
    have hj1 : (j : Int) < (row.length : Int) := by omega
    have hj2 : (j : Int) < (l2.length : Int) := by omega
    have hi3 : (i : Int) < (l3.length : Int) := by omega
    have hx : rd row (j : Int) = rd row (j : Int) := rfl
    generalize hs' : rd row (j : Int) = s at ih1 ih2 hx ⊢
    have hb1 := Int.emod_nonneg S (show m ≠ 0 by omega)
    have hb2 := Int.emod_lt_of_pos S (show 0 < m by omega)
    by_cases hT : rdOf false l2 (j : Int) = true
    · rw [if_pos (Or.inl hT), ← ihS]
      clear ih1 ih2 ihS
      by_cases hji : j = i
      · have hji' : ((j : Int) = (i : Int)) := by omega
        rw [hushref12_Sum.L1_eq]
        simp (disch := omega) only [↓if_pos, ↓if_neg, if_true, if_false, decide_eq_true_eq, Bool.false_eq_true, Bool.not_true, Bool.not_false, Bool.not_eq_true, Bool.true_eq, eq_self, Option.bind_some, Option.bind_none, beq_iff_eq, bne_iff_ne, ne_eq, not_true_eq_false, not_false_eq_true, wrap64_of, castS, hushref12_Sum.J4_eq, hT]
      · have hji' : ¬ ((j : Int) = (i : Int)) := by omega
        rw [hushref12_Sum.L1_eq]
        simp (disch := omega) only [↓if_pos, ↓if_neg, if_true, if_false, decide_eq_true_eq, Bool.false_eq_true, Bool.not_true, Bool.not_false, Bool.not_eq_true, Bool.true_eq, eq_self, Option.bind_some, Option.bind_none, beq_iff_eq, bne_iff_ne, ne_eq, not_true_eq_false, not_false_eq_true, wrap64_of, castS, hushref12_Sum.J4_eq, hT]
    · by_cases hji : j = i
      · rw [if_pos (Or.inr hji), ← ihS]
        clear ih1 ih2 ihS
        have hji' : ((j : Int) = (i : Int)) := by omega
        rw [hushref12_Sum.L1_eq]
        simp (disch := omega) only [↓if_pos, ↓if_neg, if_true, if_false, decide_eq_true_eq, Bool.false_eq_true, Bool.not_true, Bool.not_false, Bool.not_eq_true, Bool.true_eq, eq_self, Option.bind_some, Option.bind_none, beq_iff_eq, bne_iff_ne, ne_eq, not_true_eq_false, not_false_eq_true, wrap64_of, castS, hushref12_Sum.J4_eq, hT]
      · rw [if_neg (by rintro (h | h); exact hT h; exact hji h)]
        have hb : ¬ ((j : Int) = (i : Int)) := by omega
        by_cases hs : 0 ≤ s ∧ s < m
        · obtain ⟨hs1, hs2⟩ := hs
          rw [if_pos ⟨hs1, hs2⟩]
          by_cases hlt : i < j
          · rw [if_pos hlt, ← ih1]
            clear ih1 ih2 ihS
            have e : (S % m - s) % m = (S - s) % m := Int.emod_sub_emod ..
            rw [hushref12_Sum.L1_eq]
            simp (disch := omega) only [↓if_pos, ↓if_neg, if_true, if_false, decide_eq_true_eq, Bool.false_eq_true, Bool.not_true, Bool.not_false, Bool.not_eq_true, Bool.true_eq, eq_self, Option.bind_some, Option.bind_none, beq_iff_eq, bne_iff_ne, ne_eq, not_true_eq_false, not_false_eq_true, wrap64_of, castS, hushref12_Sum.J4_eq, hushref12_Sum.J5_eq, hT, hrow, hs', mod_ref m _ hm1 hm2, e]
          · rw [if_neg hlt, ← ih2]
            clear ih1 ih2 ihS
            have e : (S % m + s) % m = (S + s) % m := Int.emod_add_emod ..
            rw [hushref12_Sum.L1_eq]
            simp (disch := omega) only [↓if_pos, ↓if_neg, if_true, if_false, decide_eq_true_eq, Bool.false_eq_true, Bool.not_true, Bool.not_false, Bool.not_eq_true, Bool.true_eq, eq_self, Option.bind_some, Option.bind_none, beq_iff_eq, bne_iff_ne, ne_eq, not_true_eq_false, not_false_eq_true, wrap64_of, castS, hushref12_Sum.J4_eq, hushref12_Sum.J5_eq, hT, hrow, hs', mod_ref m _ hm1 hm2, e]
        · rw [if_neg hs]
          clear ih1 ih2 ihS
          by_cases h0 : s < 0
          · rw [hushref12_Sum.L1_eq]
            simp (disch := omega) only [↓if_pos, ↓if_neg, if_true, if_false, decide_eq_true_eq, Bool.false_eq_true, Bool.not_true, Bool.not_false, Bool.not_eq_true, Bool.true_eq, eq_self, Option.bind_some, Option.bind_none, beq_iff_eq, bne_iff_ne, ne_eq, not_true_eq_false, not_false_eq_true, wrap64_of, castS, hushref12_Sum.J4_eq, hushref12_Sum.J5_eq, hT, hrow, hs']
          · have h1 : s ≥ m := by omega
            rw [hushref12_Sum.L1_eq]
            simp (disch := omega) only [↓if_pos, ↓if_neg, if_true, if_false, decide_eq_true_eq, Bool.false_eq_true, Bool.not_true, Bool.not_false, Bool.not_eq_true, Bool.true_eq, eq_self, Option.bind_some, Option.bind_none, beq_iff_eq, bne_iff_ne, ne_eq, not_true_eq_false, not_false_eq_true, wrap64_of, castS, hushref12_Sum.J4_eq, hushref12_Sum.J5_eq, hT, hrow, hs']

theorem prog_out (m : Int) (hm1 : 2 ≤ m) (hm2 : m ≤ 1073741824) (l1 : List Int) (l2 : List Bool) (l3 : List (List Int)) (h2 : l2.length = l1.length) (h3' : l3.length = l1.length) (hn : l1.length ≤ 16) (d : Nat) :
    ∀ (i : Nat) (S : Int), i + d = l1.length → -((i : Int) * 18253611008) ≤ S → S ≤ (i : Int) * 18253611008 →
      mask_Sum.L0 l1 l2 l3 m S l1 (l1.length : Int) (i : Int) = some (outS m l1.length l1 l2 l3 d i S) := by
  induction d with
  | zero =>
    intro i S hi h3 h4
    rw [mask_Sum.L0_eq, outS]
    clear h3 h4
    simp (disch := omega) only [↓if_pos, ↓if_neg, if_true, if_false, decide_eq_true_eq, Bool.false_eq_true, Bool.not_true, Bool.not_false, Bool.not_eq_true, Bool.true_eq, eq_self, Option.bind_some, Option.bind_none, beq_iff_eq, bne_iff_ne, ne_eq, not_true_eq_false, not_false_eq_true, wrap64_of, castS, mod_prog m S hm1 hm2]
  | succ d ih =>
    intro i S hi h3 h4
    have ihS := ih (i + 1) S (by omega) (by omega) (by omega)
    rw [outS]
    by_cases hT : rdOf false l2 (i : Int) = true
    · by_cases hrl : (rd_L1 l3 (i : Int)).length = l1.length
      · have hP := prog_in m hm1 hm2 l1 l2 l3 h2 hn _ hrl i (by omega) l1.length 0 (S + rd l1 (i : Int)) (by omega)
        have hB := inS_bound m hm2 l2 (rd_L1 l3 (i : Int)) i l1.length 0 (S + rd l1 (i : Int))
        generalize hs' : rd l1 (i : Int) = s at hP hB ⊢
        rw [if_pos hT, if_pos hrl]
        by_cases hs : 0 ≤ s ∧ s < m
        · obtain ⟨hs1, hs2⟩ := hs
          have hh := mask_Mask.holds_f m s
          rw [(in_iff m s).2 ⟨hs1, hs2⟩] at hh
          have hP := hP (by omega) (by omega)
          have hw : wrap64 (S + s) = S + s := wrap64_of (by omega) (by omega)
          rw [if_pos ⟨hs1, hs2⟩]
          cases hin : inS m l2 (rd_L1 l3 (i : Int)) i l1.length 0 (S + s) with
          | none =>
            rw [hin, hrl] at hP
            dsimp only at hP
            clear h3 h4 ihS ih hB hin
            rw [mask_Sum.L0_eq]
            simp (disch := omega) only [↓if_pos, ↓if_neg, if_true, if_false, decide_eq_true_eq, Bool.false_eq_true, Bool.not_true, Bool.not_false, Bool.not_eq_true, Bool.true_eq, eq_self, Option.bind_some, Option.bind_none, beq_iff_eq, bne_iff_ne, ne_eq, not_true_eq_false, not_false_eq_true, hT, hrl, hs', hh, hw]
            exact hP
          | some S' =>
            rw [hin, hrl] at hP
            dsimp only at hP
            have hB' := hB S' hin
            have ihS' := ih (i + 1) S' (by omega) (by omega) (by omega)
            rw [ihS'] at hP
            clear h3 h4 ihS ih hB hin hB' ihS'
            rw [mask_Sum.L0_eq]
            simp (disch := omega) only [↓if_pos, ↓if_neg, if_true, if_false, decide_eq_true_eq, Bool.false_eq_true, Bool.not_true, Bool.not_false, Bool.not_eq_true, Bool.true_eq, eq_self, Option.bind_some, Option.bind_none, beq_iff_eq, bne_iff_ne, ne_eq, not_true_eq_false, not_false_eq_true, hT, hrl, hs', hh, hw]
            exact hP
        · rw [if_neg hs]
          have hh := mask_Mask.holds_f m s
          rw [in_no m s hs] at hh
          clear h3 h4 ihS ih hB hP hs
          rw [mask_Sum.L0_eq]
          simp (disch := omega) only [↓if_pos, ↓if_neg, if_true, if_false, decide_eq_true_eq, Bool.false_eq_true, Bool.not_true, Bool.not_false, Bool.not_eq_true, Bool.true_eq, eq_self, Option.bind_some, Option.bind_none, beq_iff_eq, bne_iff_ne, ne_eq, not_true_eq_false, not_false_eq_true, hT, hrl, hs', hh]
      · rw [if_pos hT, if_neg hrl]
        clear h3 h4 ihS ih
        have : ¬ (((rd_L1 l3 (i : Int)).length : Int) = (l1.length : Int)) := by omega
        rw [mask_Sum.L0_eq]
        simp (disch := omega) only [↓if_pos, ↓if_neg, if_true, if_false, decide_eq_true_eq, Bool.false_eq_true, Bool.not_true, Bool.not_false, Bool.not_eq_true, Bool.true_eq, eq_self, Option.bind_some, Option.bind_none, beq_iff_eq, bne_iff_ne, ne_eq, not_true_eq_false, not_false_eq_true, hT]
    · rw [if_neg hT, ← ihS]
      clear h3 h4 ihS ih
      rw [mask_Sum.L0_eq]
      simp (disch := omega) only [↓if_pos, ↓if_neg, if_true, if_false, decide_eq_true_eq, Bool.false_eq_true, Bool.not_true, Bool.not_false, Bool.not_eq_true, Bool.true_eq, eq_self, Option.bind_some, Option.bind_none, beq_iff_eq, bne_iff_ne, ne_eq, not_true_eq_false, not_false_eq_true, wrap64_of, castS, hT]

theorem ref_out (m : Int) (hm1 : 2 ≤ m) (hm2 : m ≤ 1073741824) (l1 : List Int) (l2 : List Bool) (l3 : List (List Int)) (h2 : l2.length = l1.length) (h3' : l3.length = l1.length) (hn : l1.length ≤ 16) (d : Nat) :
    ∀ (i : Nat) (S : Int), i + d = l1.length → hushref12_Sum.L0 m l1 l2 l3 (S % m) (l1.length : Int) (i : Int) = some (outS m l1.length l1 l2 l3 d i S) := by
  induction d with
  | zero =>
    intro i S hi
    rw [hushref12_Sum.L0_eq, outS]
    simp (disch := omega) only [↓if_pos, ↓if_neg, if_true, if_false, decide_eq_true_eq, Bool.false_eq_true, Bool.not_true, Bool.not_false, Bool.not_eq_true, Bool.true_eq, eq_self, Option.bind_some, Option.bind_none, beq_iff_eq, bne_iff_ne, ne_eq, not_true_eq_false, not_false_eq_true, wrap64_of, castS]
  | succ d ih =>
    intro i S hi
    have ihS := ih (i + 1) S (by omega)
    rw [outS]
    by_cases hT : rdOf false l2 (i : Int) = true
    · by_cases hrl : (rd_L1 l3 (i : Int)).length = l1.length
      · have hP := ref_in m hm1 hm2 l1 l2 l3 h2 h3' hn i (by omega) _ rfl hrl l1.length 0 (S + rd l1 (i : Int)) (by omega)
        generalize hs' : rd l1 (i : Int) = s at hP ⊢
        have hb1 := Int.emod_nonneg S (show m ≠ 0 by omega)
        have hb2 := Int.emod_lt_of_pos S (show 0 < m by omega)
        rw [if_pos hT, if_pos hrl]
        have e : (S % m + s) % m = (S + s) % m := Int.emod_add_emod ..
        by_cases hs : 0 ≤ s ∧ s < m
        · obtain ⟨hs1, hs2⟩ := hs
          rw [if_pos ⟨hs1, hs2⟩]
          cases hin : inS m l2 (rd_L1 l3 (i : Int)) i l1.length 0 (S + s) with
          | none =>
            rw [hin] at hP
            dsimp only at hP
            clear ihS ih hin
            rw [hushref12_Sum.L0_eq]
            simp (disch := omega) only [↓if_pos, ↓if_neg, if_true, if_false, decide_eq_true_eq, Bool.false_eq_true, Bool.not_true, Bool.not_false, Bool.not_eq_true, Bool.true_eq, eq_self, Option.bind_some, Option.bind_none, beq_iff_eq, bne_iff_ne, ne_eq, not_true_eq_false, not_false_eq_true, wrap64_of, castS, hT, hrl, hushref12_Sum.J2_eq, hs', mod_ref m _ hm1 hm2, e]
            exact hP
          | some S' =>
            rw [hin] at hP
            dsimp only at hP
            have ihS' := ih (i + 1) S' (by omega)
            rw [ihS'] at hP
            clear ihS ih hin ihS'
            rw [hushref12_Sum.L0_eq]
            simp (disch := omega) only [↓if_pos, ↓if_neg, if_true, if_false, decide_eq_true_eq, Bool.false_eq_true, Bool.not_true, Bool.not_false, Bool.not_eq_true, Bool.true_eq, eq_self, Option.bind_some, Option.bind_none, beq_iff_eq, bne_iff_ne, ne_eq, not_true_eq_false, not_false_eq_true, wrap64_of, castS, hT, hrl, hushref12_Sum.J2_eq, hs', mod_ref m _ hm1 hm2, e]
            exact hP
        · rw [if_neg hs]
          clear ihS ih hP
          by_cases h0 : s < 0
          · rw [hushref12_Sum.L0_eq]
            simp (disch := omega) only [↓if_pos, ↓if_neg, if_true, if_false, decide_eq_true_eq, Bool.false_eq_true, Bool.not_true, Bool.not_false, Bool.not_eq_true, Bool.true_eq, eq_self, Option.bind_some, Option.bind_none, beq_iff_eq, bne_iff_ne, ne_eq, not_true_eq_false, not_false_eq_true, wrap64_of, castS, hT, hrl, hushref12_Sum.J2_eq, hs']
          · have h1 : s ≥ m := by omega
            rw [hushref12_Sum.L0_eq]
            simp (disch := omega) only [↓if_pos, ↓if_neg, if_true, if_false, decide_eq_true_eq, Bool.false_eq_true, Bool.not_true, Bool.not_false, Bool.not_eq_true, Bool.true_eq, eq_self, Option.bind_some, Option.bind_none, beq_iff_eq, bne_iff_ne, ne_eq, not_true_eq_false, not_false_eq_true, wrap64_of, castS, hT, hrl, hushref12_Sum.J2_eq, hs']
      · rw [if_pos hT, if_neg hrl]
        clear ihS ih
        have : ¬ (((rd_L1 l3 (i : Int)).length : Int) = (l1.length : Int)) := by omega
        rw [hushref12_Sum.L0_eq]
        simp (disch := omega) only [↓if_pos, ↓if_neg, if_true, if_false, decide_eq_true_eq, Bool.false_eq_true, Bool.not_true, Bool.not_false, Bool.not_eq_true, Bool.true_eq, eq_self, Option.bind_some, Option.bind_none, beq_iff_eq, bne_iff_ne, ne_eq, not_true_eq_false, not_false_eq_true, hT]
    · rw [if_neg hT, ← ihS]
      clear ihS ih
      rw [hushref12_Sum.L0_eq]
      simp (disch := omega) only [↓if_pos, ↓if_neg, if_true, if_false, decide_eq_true_eq, Bool.false_eq_true, Bool.not_true, Bool.not_false, Bool.not_eq_true, Bool.true_eq, eq_self, Option.bind_some, Option.bind_none, beq_iff_eq, bne_iff_ne, ne_eq, not_true_eq_false, not_false_eq_true, wrap64_of, castS, hT]

/-- What Sum comes to: of anything. -/
def sumV (m : Int) (l1 : List Int) (l2 : List Bool) (l3 : List (List Int)) : Int × Int :=
  if teamV m l1.length = 0 then (if l2.length = l1.length ∧ l3.length = l1.length then outS m l1.length l1 l2 l3 l1.length 0 0 else (0, 8)) else (0, teamV m l1.length)

theorem sum_prog (m : Int) (l1 : List Int) (l2 : List Bool) (l3 : List (List Int)) : mask_Sum.F m l1 l2 l3 = some (sumV m l1 l2 l3) := by
  rw [mask_Sum.F_eq, team_prog, Option.bind_some]
  unfold sumV
  by_cases ht : teamV m l1.length = 0
  · rw [if_pos ht, if_pos ht]
    obtain ⟨hm1, hm2, hn1, hn2⟩ := teamV_zero ht
    by_cases h2 : l2.length = l1.length
    · by_cases h3 : l3.length = l1.length
      · have hP := prog_out m hm1 hm2 l1 l2 l3 h2 h3 (by omega) l1.length 0 0 (by omega) (by omega) (by omega)
        rw [show (if l2.length = l1.length ∧ l3.length = l1.length then outS m l1.length l1 l2 l3 l1.length 0 0 else ((0 : Int), (8 : Int))) = _ from if_pos ⟨h2, h3⟩, ← hP]
        simp (disch := omega) only [↓if_pos, ↓if_neg, if_true, if_false, decide_eq_true_eq, Bool.false_eq_true, Bool.not_true, Bool.not_false, Bool.not_eq_true, Bool.true_eq, eq_self, Option.bind_some, Option.bind_none, beq_iff_eq, bne_iff_ne, ne_eq, not_true_eq_false, not_false_eq_true, mask_Sum.J0_eq]
        rfl
      · rw [show (if l2.length = l1.length ∧ l3.length = l1.length then outS m l1.length l1 l2 l3 l1.length 0 0 else ((0 : Int), (8 : Int))) = _ from if_neg (fun h => h3 h.2)]
        have h3' : ¬ ((l3.length : Int) = (l1.length : Int)) := by omega
        simp (disch := omega) only [↓if_pos, ↓if_neg, if_true, if_false, decide_eq_true_eq, Bool.false_eq_true, Bool.not_true, Bool.not_false, Bool.not_eq_true, Bool.true_eq, eq_self, Option.bind_some, Option.bind_none, beq_iff_eq, bne_iff_ne, ne_eq, not_true_eq_false, not_false_eq_true, mask_Sum.J0_eq]
    · rw [show (if l2.length = l1.length ∧ l3.length = l1.length then outS m l1.length l1 l2 l3 l1.length 0 0 else ((0 : Int), (8 : Int))) = _ from if_neg (fun h => h2 h.1)]
      have h2' : ¬ ((l2.length : Int) = (l1.length : Int)) := by omega
      simp (disch := omega) only [↓if_pos, ↓if_neg, if_true, if_false, decide_eq_true_eq, Bool.false_eq_true, Bool.not_true, Bool.not_false, Bool.not_eq_true, Bool.true_eq, eq_self, Option.bind_some, Option.bind_none, beq_iff_eq, bne_iff_ne, ne_eq, not_true_eq_false, not_false_eq_true, mask_Sum.J0_eq]
  · rw [if_neg ht, if_neg ht]

theorem sum_ref (m : Int) (l1 : List Int) (l2 : List Bool) (l3 : List (List Int)) : hushref12_Sum.F m l1 l2 l3 = some (sumV m l1 l2 l3) := by
  rw [hushref12_Sum.F_eq, team_ref, Option.bind_some]
  unfold sumV
  by_cases ht : teamV m l1.length = 0
  · rw [if_pos ht, if_pos ht]
    obtain ⟨hm1, hm2, hn1, hn2⟩ := teamV_zero ht
    by_cases h2 : l2.length = l1.length
    · by_cases h3 : l3.length = l1.length
      · have hP := ref_out m hm1 hm2 l1 l2 l3 h2 h3 (by omega) l1.length 0 0 (by omega)
        rw [show (if l2.length = l1.length ∧ l3.length = l1.length then outS m l1.length l1 l2 l3 l1.length 0 0 else ((0 : Int), (8 : Int))) = _ from if_pos ⟨h2, h3⟩, ← hP]
        simp (disch := omega) only [↓if_pos, ↓if_neg, if_true, if_false, decide_eq_true_eq, Bool.false_eq_true, Bool.not_true, Bool.not_false, Bool.not_eq_true, Bool.true_eq, eq_self, Option.bind_some, Option.bind_none, beq_iff_eq, bne_iff_ne, ne_eq, not_true_eq_false, not_false_eq_true, hushref12_Sum.J0_eq, Int.zero_emod]
        rfl
      · rw [show (if l2.length = l1.length ∧ l3.length = l1.length then outS m l1.length l1 l2 l3 l1.length 0 0 else ((0 : Int), (8 : Int))) = _ from if_neg (fun h => h3 h.2)]
        have h3' : ¬ ((l3.length : Int) = (l1.length : Int)) := by omega
        simp (disch := omega) only [↓if_pos, ↓if_neg, if_true, if_false, decide_eq_true_eq, Bool.false_eq_true, Bool.not_true, Bool.not_false, Bool.not_eq_true, Bool.true_eq, eq_self, Option.bind_some, Option.bind_none, beq_iff_eq, bne_iff_ne, ne_eq, not_true_eq_false, not_false_eq_true, hushref12_Sum.J0_eq]
    · rw [show (if l2.length = l1.length ∧ l3.length = l1.length then outS m l1.length l1 l2 l3 l1.length 0 0 else ((0 : Int), (8 : Int))) = _ from if_neg (fun h => h2 h.1)]
      have h2' : ¬ ((l2.length : Int) = (l1.length : Int)) := by omega
      simp (disch := omega) only [↓if_pos, ↓if_neg, if_true, if_false, decide_eq_true_eq, Bool.false_eq_true, Bool.not_true, Bool.not_false, Bool.not_eq_true, Bool.true_eq, eq_self, Option.bind_some, Option.bind_none, beq_iff_eq, bne_iff_ne, ne_eq, not_true_eq_false, not_false_eq_true, hushref12_Sum.J0_eq]
  · rw [if_neg ht, if_neg ht]
end Go.Proofs.Ytjehjjpejmdfiaa.Pure

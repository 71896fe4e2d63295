/- MaskSums' pure statement: whoever stays away, the sum of all others is right. Conditions: none are used. -/
import Derived.Test.YtjehjjpejmdfiaaPAx11
import Derived.Test.YtjehjjpejmdfiaaFAx11
import Derived.Test.YtjehjjpejmdfiaaMaskShares
namespace Go.Proofs.Ytjehjjpejmdfiaa.Pure
set_option linter.unusedVariables false
set_option linter.unusedSimpArgs false
open Go.RowKit Go.Proofs.Ytjehjjpejmdfiaa.PA Go.Proofs.YtjehjjpejmdfiaaW.PrintWords Go.Proofs.YtjehjjpejmdfiaaW.PrintLast Go.Proofs.YtjehjjpejmdfiaaW.PrintMore Go.Proofs.YtjehjjpejmdfiaaW.EvKit

theorem inS_val (m : Int) (l2 : List Bool) (row : List Int) (i : Nat) (d : Nat) : ∀ (j : Nat) (S : Int), (∀ k, j ≤ k → k < j + d → 0 ≤ rd row (k : Int) ∧ rd row (k : Int) < m) →
    inS m l2 row i d j S = some (S + sm (fun k => if rdOf false l2 (k : Int) = true then 0 else - sgf i k (rd row (k : Int))) d j) := by
  induction d with
  | zero => intro j S _; rw [inS, sm, Int.add_zero]
  | succ d ih =>
    intro j S h
    have ihh := fun S => ih (j + 1) S (fun k h1 h2 => h k (by omega) (by omega))
    obtain ⟨h1, h2⟩ := h j (by omega) (by omega)
    rw [inS, sm]
    by_cases hT : rdOf false l2 (j : Int) = true
    · rw [if_pos (Or.inl hT), ihh, if_pos hT, Int.zero_add]
    · by_cases hji : j = i
      · subst hji
        rw [if_pos (Or.inr rfl), ihh, if_neg hT]
        have : sgf j j (rd row (j : Int)) = 0 := by unfold sgf; rw [if_neg (by omega), if_neg (by omega)]
        rw [this, Int.neg_zero, Int.zero_add]
      · rw [if_neg (by rintro (q | q); exact hT q; exact hji q), if_pos ⟨h1, h2⟩, ihh, if_neg hT]
        unfold sgf
        by_cases hlt : i < j
        · rw [if_pos hlt, if_pos hlt]; congr 1; omega
        · rw [if_neg hlt, if_neg hlt, if_pos (by omega)]; congr 1; omega

theorem outS_val (m : Int) (n : Nat) (l1 : List Int) (l2 : List Bool) (M : List (List Int)) (hM : Good m n M) (hl1 : ∀ i, i < n → 0 ≤ rd l1 (i : Int) ∧ rd l1 (i : Int) < m) (d : Nat) : ∀ (i : Nat) (S : Int), i + d = n →
    outS m n l1 l2 M d i S = ((S + sm (fun i => if rdOf false l2 (i : Int) = true then rd l1 (i : Int) + sm (fun k => if rdOf false l2 (k : Int) = true then 0 else - sgf i k ((M.getD i []).getD k 0)) n 0 else 0) d i) % m, 0) := by
  induction d with
  | zero => intro i S _; rw [outS, sm, Int.add_zero]
  | succ d ih =>
    intro i S hi
    obtain ⟨g1, g2, g3⟩ := hM
    rw [outS, sm]
    by_cases hT : rdOf false l2 (i : Int) = true
    · rw [if_pos hT, if_pos hT, rdL_nat, if_pos (g2 i (by omega)), if_pos (hl1 i (by omega)), inS_val m l2 _ i n 0 _ (fun k h1 h2 => by rw [rd_nat]; exact (g3 i k (by omega) (by omega)).1)]
      simp only
      rw [ih (i + 1) _ (by omega)]
      have he := sm_congr (f := fun k => if rdOf false l2 (k : Int) = true then 0 else - sgf i k (rd (M.getD i []) (k : Int))) (g := fun k => if rdOf false l2 (k : Int) = true then 0 else - sgf i k ((M.getD i []).getD k 0)) n 0 (fun k _ _ => by rw [rd_nat])
      rw [he]
      congr 2
      omega
    · rw [if_neg hT, if_neg hT, ih (i + 1) _ (by omega), Int.zero_add]

theorem main (m : Int) (hm1 : 2 ≤ m) (n : Nat) (M : List (List Int)) (hM : Good m n M) (numbers : List Int) (l2 : List Bool) :
    (sm (fun i => if rdOf false l2 (i : Int) = true then yv m numbers M n i + sm (fun k => if rdOf false l2 (k : Int) = true then 0 else - sgf i k ((M.getD i []).getD k 0)) n 0 else 0) n 0) % m = (sm (fun i => if rdOf false l2 (i : Int) = true then rd numbers (i : Int) % m else 0) n 0) % m := by
  obtain ⟨g1, g2, g3⟩ := hM
  have key : sm (fun i => if rdOf false l2 (i : Int) = true then yv m numbers M n i + sm (fun k => if rdOf false l2 (k : Int) = true then 0 else - sgf i k ((M.getD i []).getD k 0)) n 0 else 0) n 0 =
      sm (fun i => if rdOf false l2 (i : Int) = true then rd numbers (i : Int) % m else 0) n 0 + (sm (fun i => sm (fun k => if rdOf false l2 (i : Int) = true ∧ rdOf false l2 (k : Int) = true then sgf i k ((M.getD i []).getD k 0) else 0) n 0) n 0 + m * sm (fun i => if rdOf false l2 (i : Int) = true then - ((rd numbers (i : Int) % m + sm (fun k => sgf i k ((M.getD i []).getD k 0)) n 0) / m) else 0) n 0) := by
    rw [← sm_mul, sm_add, sm_add]
    refine sm_congr n 0 (fun i _ hi => ?_)
    by_cases hT : rdOf false l2 (i : Int) = true
    · simp only [hT, if_true, true_and]
      have e1 : yv m numbers M n i = rd numbers (i : Int) % m + sm (fun k => sgf i k ((M.getD i []).getD k 0)) n 0 - m * ((rd numbers (i : Int) % m + sm (fun k => sgf i k ((M.getD i []).getD k 0)) n 0) / m) := by
        unfold yv
        rw [Int.emod_def]
      have e2 : sm (fun k => if rdOf false l2 (k : Int) = true then sgf i k ((M.getD i []).getD k 0) else 0) n 0 = sm (fun k => sgf i k ((M.getD i []).getD k 0)) n 0 + sm (fun k => if rdOf false l2 (k : Int) = true then 0 else - sgf i k ((M.getD i []).getD k 0)) n 0 := by
        rw [sm_add]
        refine sm_congr n 0 (fun k _ _ => ?_)
        by_cases hk : rdOf false l2 (k : Int) = true
        · simp only [hk, if_true]; omega
        · simp only [hk, if_false]; simp; omega
      rw [e1, e2]
      generalize sm (fun k => sgf i k ((M.getD i []).getD k 0)) n 0 = A
      generalize sm (fun k => if rdOf false l2 (k : Int) = true then 0 else - sgf i k ((M.getD i []).getD k 0)) n 0 = B
      rw [Int.mul_neg]
      omega
    · have hz : sm (fun k => if rdOf false l2 (i : Int) = true ∧ rdOf false l2 (k : Int) = true then sgf i k ((M.getD i []).getD k 0) else 0) n 0 = 0 := by
        exact (sm_congr (g := fun _ => 0) n 0 (fun k _ _ => by rw [if_neg (fun h => hT h.1)])).trans (sm_zero n 0)
      rw [hz]
      simp only [hT]
      simp
  have hz : sm (fun i => sm (fun k => if rdOf false l2 (i : Int) = true ∧ rdOf false l2 (k : Int) = true then sgf i k ((M.getD i []).getD k 0) else 0) n 0) n 0 = 0 := by
    refine sm_anti _ n 0 (fun i k _ hi _ hk => ?_)
    have hs := (g3 i k (by omega) (by omega)).2
    rw [hs]
    by_cases hT : rdOf false l2 (i : Int) = true ∧ rdOf false l2 (k : Int) = true
    · rw [if_pos hT, if_pos ⟨hT.2, hT.1⟩]
      unfold sgf
      by_cases h1 : i < k
      · rw [if_pos h1, if_neg (by omega), if_pos h1]; omega
      · rw [if_neg h1]
        by_cases h2 : k < i
        · rw [if_pos h2, if_pos h2]
        · rw [if_neg h2, if_neg h2, if_neg h1]; rfl
    · rw [if_neg hT, if_neg (fun h => hT ⟨h.2, h.1⟩)]; rfl
  rw [key, hz, Int.zero_add, Int.add_mul_emod_self_left]

theorem law_l0 (m : Int) (hm1 : 2 ≤ m) (hm2 : m ≤ 1073741824) (n : Nat) (hn1 : 1 ≤ n) (hn2 : n ≤ 16) (M : List (List Int)) (hM : Good m n M) (numbers : List Int) (hl : numbers.length = n) (l2 : List Bool) (hl2 : l2.length = n) (d : Nat) :
    ∀ (i : Nat) (S : Int), i + d = n → 0 ≤ S → S < m → S % m + sm (fun i => if rdOf false l2 (i : Int) = true then rd numbers (i : Int) % m else 0) d i - sm (fun i => if rdOf false l2 (i : Int) = true then rd numbers (i : Int) % m else 0) n 0 = m * ((S + sm (fun i => if rdOf false l2 (i : Int) = true then rd numbers (i : Int) % m else 0) d i - sm (fun i => if rdOf false l2 (i : Int) = true then rd numbers (i : Int) % m else 0) n 0) / m) →
      hushlaw12_MaskSums.L0 m l2 M ((List.range n).map (yv m numbers M n)) S numbers (n : Int) (i : Int) = some true := by
  induction d with
  | zero =>
    intro i S hi h0 h1 hS
    rw [hushlaw12_MaskSums.L0_eq, if_neg (by omega), sum_prog]
    unfold sumV
    have ht : teamV m (n : Int) = 0 := by
      unfold teamV
      rw [if_neg (by omega), if_neg (by omega)]
    rw [List.length_map, List.length_range, if_pos ht, if_pos ⟨hl2, hM.1⟩]
    have hy : ∀ i, i < n → rd ((List.range n).map (yv m numbers M n)) (i : Int) = yv m numbers M n i := fun i hi => by
      rw [rd_nat, List.getD_eq_getElem?_getD, List.getElem?_map, List.getElem?_range hi]; rfl
    rw [outS_val m n _ l2 M hM (fun i hi => by rw [hy i hi]; exact ⟨Int.emod_nonneg _ (by omega), Int.emod_lt_of_pos _ (by omega)⟩) n 0 0 (by omega)]
    rw [sm_congr (g := fun i => if rdOf false l2 (i : Int) = true then yv m numbers M n i + sm (fun k => if rdOf false l2 (k : Int) = true then 0 else - sgf i k ((M.getD i []).getD k 0)) n 0 else 0) n 0 (fun i _ hi => by rw [hy i (by omega)])]
    rw [Int.zero_add, main m hm1 n M hM numbers l2]
    simp only [Option.bind_some, if_true]
    rw [sm, Int.add_zero, Int.add_zero] at hS
    rw [Int.emod_eq_of_lt h0 h1] at hS
    generalize sm (fun i => if rdOf false l2 (i : Int) = true then rd numbers (i : Int) % m else 0) n 0 = A at hS ⊢
    have : A % m = S := by
      have e : A = S + m * (-((S - A) / m)) := by rw [Int.mul_neg]; omega
      rw [e, Int.add_mul_emod_self_left, Int.emod_eq_of_lt h0 h1]
    rw [this]
    simp
  | succ d ih =>
    intro i S hi h0 h1 hS
    have hlen : (i : Int) < (numbers.length : Int) := by omega
    have hlen2 : (i : Int) < (l2.length : Int) := by omega
    rw [hushlaw12_MaskSums.L0_eq]
    by_cases hT : rdOf false l2 (i : Int) = true
    · have e1 := Int.emod_nonneg (rd numbers (i : Int)) (show m ≠ 0 by omega)
      have e2 := Int.emod_lt_of_pos (rd numbers (i : Int)) (show 0 < m by omega)
      have ih := ih (i + 1) ((S + rd numbers (i : Int) % m) % m) (by omega) (Int.emod_nonneg _ (by omega)) (Int.emod_lt_of_pos _ (by omega)) (by
        rw [sm, if_pos hT] at hS
        rw [Int.emod_emod_of_dvd _ (Int.dvd_refl m)]
        generalize sm (fun i => if rdOf false l2 (i : Int) = true then rd numbers (i : Int) % m else 0) n 0 = A at hS ⊢
        generalize sm (fun i => if rdOf false l2 (i : Int) = true then rd numbers (i : Int) % m else 0) d (i + 1) = B at hS ⊢
        rw [Int.emod_eq_of_lt h0 h1] at hS
        generalize rd numbers (i : Int) % m = x at hS ⊢
        have hq := Int.emod_def (S + x) m
        have hd : m ∣ (S + x) % m + B - A := by
          rw [hq]
          refine ⟨(S + (x + B) - A) / m - (S + x) / m, ?_⟩
          rw [Int.mul_sub]
          omega
        rw [Int.mul_ediv_cancel' hd])
      simp (disch := omega) only [↓if_pos, ↓if_neg, if_true, if_false, decide_eq_true_eq, Bool.false_eq_true, Bool.not_true, Bool.not_false, Bool.not_eq_true, Bool.true_eq, eq_self, Option.bind_some, Option.bind_none, beq_iff_eq, bne_iff_ne, ne_eq, not_true_eq_false, not_false_eq_true, wrap64_of, castS, hT, mod_ref m _ hm1 hm2]
      exact ih
    · have ih := ih (i + 1) S (by omega) h0 h1 (by rw [sm, if_neg hT, Int.zero_add] at hS; exact hS)
      simp (disch := omega) only [↓if_pos, ↓if_neg, if_true, if_false, decide_eq_true_eq, Bool.false_eq_true, Bool.not_true, Bool.not_false, Bool.not_eq_true, Bool.true_eq, eq_self, Option.bind_some, Option.bind_none, beq_iff_eq, bne_iff_ne, ne_eq, not_true_eq_false, not_false_eq_true, wrap64_of, castS, hT]
      exact ih

theorem MaskSums : hushlaw12_MaskSums.Pure := by
  intro m l1 l2 l3 _ _ _ _
  refine (hushlaw12_MaskSums.F_is m l1 l2 l3).rounds ?_
  rw [hushlaw12_MaskSums.F_eq, alive_F]
  by_cases h1 : m < 2
  · simp (disch := omega) only [↓if_pos, ↓if_neg, if_true, if_false, decide_eq_true_eq, Bool.false_eq_true, Bool.not_true, Bool.not_false, Bool.not_eq_true, Bool.true_eq, eq_self, Option.bind_some, Option.bind_none, beq_iff_eq, bne_iff_ne, ne_eq, not_true_eq_false, not_false_eq_true, hushlaw12_MaskSums.J0_eq]
  · by_cases h2 : m > 1073741824
    · simp (disch := omega) only [↓if_pos, ↓if_neg, if_true, if_false, decide_eq_true_eq, Bool.false_eq_true, Bool.not_true, Bool.not_false, Bool.not_eq_true, Bool.true_eq, eq_self, Option.bind_some, Option.bind_none, beq_iff_eq, bne_iff_ne, ne_eq, not_true_eq_false, not_false_eq_true, hushlaw12_MaskSums.J0_eq]
    · by_cases h3 : (l1.length : Int) < 1
      · simp (disch := omega) only [↓if_pos, ↓if_neg, if_true, if_false, decide_eq_true_eq, Bool.false_eq_true, Bool.not_true, Bool.not_false, Bool.not_eq_true, Bool.true_eq, eq_self, Option.bind_some, Option.bind_none, beq_iff_eq, bne_iff_ne, ne_eq, not_true_eq_false, not_false_eq_true, hushlaw12_MaskSums.J0_eq]
      · by_cases h4 : (l1.length : Int) > 16
        · simp (disch := omega) only [↓if_pos, ↓if_neg, if_true, if_false, decide_eq_true_eq, Bool.false_eq_true, Bool.not_true, Bool.not_false, Bool.not_eq_true, Bool.true_eq, eq_self, Option.bind_some, Option.bind_none, beq_iff_eq, bne_iff_ne, ne_eq, not_true_eq_false, not_false_eq_true, hushlaw12_MaskSums.J0_eq]
        · by_cases h5 : (l3.length : Int) = (l1.length : Int)
          · obtain ⟨M, hs, hM⟩ := shares_some m (by omega) (by omega) l1.length (by omega) l2
            have hx := masks_some m (by omega) (by omega) l1.length (by omega) (by omega) M hM l1 rfl
            simp (disch := omega) only [↓if_pos, ↓if_neg, if_true, if_false, decide_eq_true_eq, Bool.false_eq_true, Bool.not_true, Bool.not_false, Bool.not_eq_true, Bool.true_eq, eq_self, Option.bind_some, Option.bind_none, beq_iff_eq, bne_iff_ne, ne_eq, not_true_eq_false, not_false_eq_true, hushlaw12_MaskSums.J0_eq, hs, hx]
            have := law_l0 m (by omega) (by omega) l1.length (by omega) (by omega) M hM l1 rfl l3 (by omega) l1.length 0 0 (by omega) (by omega) (by omega) (by rw [Int.zero_emod]; simp)
            exact this
          · simp (disch := omega) only [↓if_pos, ↓if_neg, if_true, if_false, decide_eq_true_eq, Bool.false_eq_true, Bool.not_true, Bool.not_false, Bool.not_eq_true, Bool.true_eq, eq_self, Option.bind_some, Option.bind_none, beq_iff_eq, bne_iff_ne, ne_eq, not_true_eq_false, not_false_eq_true, hushlaw12_MaskSums.J0_eq]
end Go.Proofs.Ytjehjjpejmdfiaa.Pure

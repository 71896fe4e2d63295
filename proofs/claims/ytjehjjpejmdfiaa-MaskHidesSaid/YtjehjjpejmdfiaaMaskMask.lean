/- mask.Mask and its reference are one function: a signed sum, brought into the ring. Conditions stand in each theorem. -/
import Derived.Test.YtjehjjpejmdfiaaMaskTeam
namespace Go.Proofs.Ytjehjjpejmdfiaa.Pure
set_option linter.unusedVariables false
set_option linter.unusedSimpArgs false
open Go.RowKit Go.Proofs.Ytjehjjpejmdfiaa.PA Go.Proofs.YtjehjjpejmdfiaaW.PrintWords Go.Proofs.YtjehjjpejmdfiaaW.PrintLast Go.Proofs.YtjehjjpejmdfiaaW.PrintMore Go.Proofs.YtjehjjpejmdfiaaW.EvKit

def sgn (me : Int) : Int → List Int → Int
  | _, [] => 0
  | k, s :: r => (if me < k then s else if k < me then -s else 0) + sgn me (k + 1) r

theorem go_sgn (m me : Int) (hm2 : m ≤ 1073741824) (l : List Int) : ∀ (k num : Int), (∀ s ∈ l, 0 ≤ s ∧ s < m) → -1099511627776 + (l.length : Int) * 1073741824 ≤ num → num ≤ 1099511627776 - (l.length : Int) * 1073741824 → mask_Mask.go me l k num = num + sgn me k l := by
  induction l with
  | nil => intro k num _ _ _; simp only [mask_Mask.go, sgn, Int.add_zero]
  | cons s r ih0 =>
    intro k num hs h1 h2
    obtain ⟨a, b⟩ := hs s (List.mem_cons_self ..)
    have h3 : ((s :: r).length : Int) = (r.length : Int) + 1 := by simp
    rw [h3] at h1 h2
    have ih : ∀ z, -1099511627776 + (r.length : Int) * 1073741824 ≤ z → z ≤ 1099511627776 - (r.length : Int) * 1073741824 → mask_Mask.go me r (k + 1) z = z + sgn me (k + 1) r := fun z => ih0 (k + 1) z (fun x hx => hs x (List.mem_cons_of_mem _ hx))
    clear ih0 hs h3
    simp only [mask_Mask.go, sgn]
    generalize sgn me (k + 1) r = q at ih ⊢
    have hr : (0 : Int) ≤ r.length := by omega
    generalize (r.length : Int) = n at h1 h2 ih hr
    by_cases c1 : me < k
    · rw [if_pos c1, if_pos c1, wrap64_of (by omega) (by omega), ih _ (by omega) (by omega)]; omega
    · rw [if_neg c1, if_neg c1]
      by_cases c2 : k < me
      · rw [if_pos c2, if_pos c2, wrap64_of (by omega) (by omega), ih _ (by omega) (by omega)]; omega
      · rw [if_neg c2, if_neg c2, ih _ (by omega) (by omega)]; omega

theorem rd_drop {xs : List Int} {i : Nat} {y : Int} {ys : List Int} (h : xs.drop i = y :: ys) : rd xs (i : Int) = y ∧ i < xs.length ∧ xs.drop (i + 1) = ys := by
  obtain ⟨a, b, c⟩ := getD_drop xs 0 i y ys h
  exact ⟨by unfold rd; rw [Int.toNat_natCast]; exact a, b, c⟩

theorem ref_l2 (m me : Int) (hm1 : 2 ≤ m) (hm2 : m ≤ 1073741824) (l : List Int) (hl : l.length ≤ 16) : ∀ (t : List Int) (i : Nat) (x : Int), l.drop i = t → (∀ s ∈ t, 0 ≤ s ∧ s < m) → me < i → i ≤ l.length → 0 ≤ x → x < m → hushref12_Mask.L2 m x l (i : Int) = some ((x + sgn me i t) % m, 0)
  | [], i, x, h, hs, hi, hle, hx1, hx2 => by
    have h1 : l.length ≤ i := List.drop_eq_nil_iff.mp h
    rw [hushref12_Mask.L2_eq]
    simp (disch := omega) only [↓if_pos, ↓if_neg, if_true, if_false, decide_eq_true_eq, Bool.false_eq_true, Bool.not_true, Bool.not_false, Bool.not_eq_true, Bool.true_eq, eq_self, Option.bind_some, Option.bind_none, beq_iff_eq, bne_iff_ne, ne_eq, not_true_eq_false, not_false_eq_true, sgn]
    rw [Int.add_zero, Int.emod_eq_of_lt hx1 hx2]
  | s :: r, i, x, h, hs, hi, hle, hx1, hx2 => by
    obtain ⟨a, b, c⟩ := rd_drop h
    obtain ⟨d, e⟩ := hs s (List.mem_cons_self ..)
    rw [hushref12_Mask.L2_eq, a]
    simp (disch := omega) only [↓if_pos, ↓if_neg, if_true, if_false, decide_eq_true_eq, Bool.false_eq_true, Bool.not_true, Bool.not_false, Bool.not_eq_true, Bool.true_eq, eq_self, Option.bind_some, Option.bind_none, beq_iff_eq, bne_iff_ne, ne_eq, not_true_eq_false, not_false_eq_true, wrap64_of, castS, mod_ref m _ hm1 hm2]
    have e1 := Int.emod_nonneg (x + s) (show m ≠ 0 by omega)
    have e2 := Int.emod_lt_of_pos (x + s) (show 0 < m by omega)
    rw [ref_l2 m me hm1 hm2 l hl r (i + 1) _ c (fun y hy => hs y (List.mem_cons_of_mem _ hy)) (by omega) (by omega) e1 e2, Int.emod_add_emod]
    simp only [sgn]
    rw [if_pos hi]
    have : ((i + 1 : Nat) : Int) = (i : Int) + 1 := by omega
    rw [this]
    congr 2
    rw [Int.add_assoc]

theorem ref_l1 (m : Int) (hm1 : 2 ≤ m) (hm2 : m ≤ 1073741824) (l : List Int) (hl : l.length ≤ 16) (me : Nat) (hme : me < l.length) : ∀ (t : List Int) (i : Nat) (x : Int), l.drop i = t → (∀ s ∈ t, 0 ≤ s ∧ s < m) → i ≤ me → 0 ≤ x → x < m → hushref12_Mask.L1 m (me : Int) x l (i : Int) = some ((x + sgn me i t) % m, 0)
  | [], i, x, h, hs, hi, hx1, hx2 => by
    have h1 : l.length ≤ i := List.drop_eq_nil_iff.mp h
    omega
  | s :: r, i, x, h, hs, hi, hx1, hx2 => by
    obtain ⟨a, b, c⟩ := rd_drop h
    obtain ⟨d, e⟩ := hs s (List.mem_cons_self ..)
    rw [hushref12_Mask.L1_eq]
    by_cases hlt : i < me
    · simp (disch := omega) only [↓if_pos, ↓if_neg, if_true, if_false, decide_eq_true_eq, Bool.false_eq_true, Bool.not_true, Bool.not_false, Bool.not_eq_true, Bool.true_eq, eq_self, Option.bind_some, Option.bind_none, beq_iff_eq, bne_iff_ne, ne_eq, not_true_eq_false, not_false_eq_true, wrap64_of, castS, a, mod_ref m _ hm1 hm2]
      have e1 := Int.emod_nonneg (x - s) (show m ≠ 0 by omega)
      have e2 := Int.emod_lt_of_pos (x - s) (show 0 < m by omega)
      rw [ref_l1 m hm1 hm2 l hl me hme r (i + 1) _ c (fun y hy => hs y (List.mem_cons_of_mem _ hy)) (by omega) e1 e2, Int.emod_add_emod]
      simp only [sgn]
      rw [if_neg (by omega), if_pos (by omega)]
      have : ((i + 1 : Nat) : Int) = (i : Int) + 1 := by omega
      rw [this]
      rw [show x - s + sgn (me : Int) ((i : Int) + 1) r = x + (-s + sgn (me : Int) ((i : Int) + 1) r) by omega]
    · obtain rfl : i = me := by omega
      simp (disch := omega) only [↓if_pos, ↓if_neg, if_true, if_false, decide_eq_true_eq, Bool.false_eq_true, Bool.not_true, Bool.not_false, Bool.not_eq_true, Bool.true_eq, eq_self, Option.bind_some, Option.bind_none, beq_iff_eq, bne_iff_ne, ne_eq, not_true_eq_false, not_false_eq_true, wrap64_of, castS]
      have : ((i : Int) + 1) = ((i + 1 : Nat) : Int) := by omega
      rw [ref_l2 m i hm1 hm2 l hl r (i + 1) x c (fun y hy => hs y (List.mem_cons_of_mem _ hy)) (by omega) (by omega) hx1 hx2]
      simp only [sgn]
      rw [if_neg (by omega), if_neg (by omega), this, Int.zero_add]

theorem ref_l0 (m me x : Int) (l : List Int) (hl : l.length ≤ 16) : ∀ (t : List Int) (i : Nat), l.drop i = t → i ≤ l.length → hushref12_Mask.L0 m me x l l (l.length : Int) (i : Int) = if t.any (mask_Mask.out m) = true then some (0, 3) else hushref12_Mask.L1 m me x l 0
  | [], i, h, hle => by
    have h1 : l.length ≤ i := List.drop_eq_nil_iff.mp h
    rw [hushref12_Mask.L0_eq]
    simp (disch := omega) only [↓if_pos, ↓if_neg, if_true, if_false, decide_eq_true_eq, Bool.false_eq_true, Bool.not_true, Bool.not_false, Bool.not_eq_true, Bool.true_eq, eq_self, Option.bind_some, Option.bind_none, beq_iff_eq, bne_iff_ne, ne_eq, not_true_eq_false, not_false_eq_true, List.any_nil]
  | s :: r, i, h, hle => by
    obtain ⟨a, b, c⟩ := rd_drop h
    have ih := ref_l0 m me x l hl r (i + 1) c (by omega)
    rw [hushref12_Mask.L0_eq, List.any_cons]
    unfold mask_Mask.out at ih ⊢
    by_cases h1 : 0 ≤ s ∧ s < m
    · rw [(in_iff m s).2 h1]
      obtain ⟨h2, h3⟩ := h1
      have h4 : wrap64 ((i : Int) + 1) = ((i + 1 : Nat) : Int) := by rw [wrap64_of (by omega) (by omega)]; omega
      simp (disch := omega) only [↓if_pos, ↓if_neg, if_true, if_false, decide_eq_true_eq, Bool.false_eq_true, Bool.not_true, Bool.not_false, Bool.not_eq_true, Bool.true_eq, eq_self, Option.bind_some, Option.bind_none, beq_iff_eq, bne_iff_ne, ne_eq, not_true_eq_false, not_false_eq_true, a, h4, Bool.false_or]
      exact ih
    · rw [in_no m s h1]
      by_cases h2 : s < 0
      · simp (disch := omega) only [↓if_pos, ↓if_neg, if_true, if_false, decide_eq_true_eq, Bool.false_eq_true, Bool.not_true, Bool.not_false, Bool.not_eq_true, Bool.true_eq, eq_self, Option.bind_some, Option.bind_none, beq_iff_eq, bne_iff_ne, ne_eq, not_true_eq_false, not_false_eq_true, a, Bool.true_or]
      · simp (disch := omega) only [↓if_pos, ↓if_neg, if_true, if_false, decide_eq_true_eq, Bool.false_eq_true, Bool.not_true, Bool.not_false, Bool.not_eq_true, Bool.true_eq, eq_self, Option.bind_some, Option.bind_none, beq_iff_eq, bne_iff_ne, ne_eq, not_true_eq_false, not_false_eq_true, a, Bool.true_or]

theorem any_out (m : Int) (l : List Int) (h : l.any (mask_Mask.out m) = false) : ∀ s ∈ l, 0 ≤ s ∧ s < m := by
  intro s hs
  have := List.any_eq_false.mp h s hs
  unfold mask_Mask.out at this
  exact (in_iff m s).1 (by simpa using this)

/-- What Mask comes to: of anything. -/
def maskV (m me num : Int) (l : List Int) : Int × Int :=
  if teamV m l.length = 0 then (if me < 0 ∨ (l.length : Int) ≤ me ∨ ¬ (0 ≤ num ∧ num < m) ∨ l.any (mask_Mask.out m) = true then (0, 3) else ((num + sgn me 0 l) % m, 0)) else (0, teamV m l.length)

theorem mask_prog (m me num : Int) (l : List Int) : mask_Mask.F m me num l = some (maskV m me num l) := by
  rw [mask_Mask.F_eq, team_prog, Option.bind_some]
  unfold maskV
  by_cases ht : teamV m l.length = 0
  · rw [if_pos ht, if_pos ht]
    obtain ⟨hm1, hm2, hn1, hn2⟩ := teamV_zero ht
    unfold mask_Mask.rest
    by_cases h1 : me < 0
    · rw [if_pos h1, if_pos (Or.inl h1)]
    · rw [if_neg h1]
      by_cases h2 : (l.length : Int) ≤ me
      · rw [if_pos h2, if_pos (Or.inr (Or.inl h2))]
      · rw [if_neg h2]
        by_cases h3 : 0 ≤ num ∧ num < m
        · have h3' : ¬ mask_Mask.out m num = true := by unfold mask_Mask.out; rw [(in_iff m num).2 h3]; decide
          rw [if_neg h3']
          cases h4 : l.any (mask_Mask.out m) with
          | true => rw [if_pos rfl, if_pos (Or.inr (Or.inr (Or.inr rfl)))]
          | false =>
            rw [if_neg (by decide), if_neg (by simp [h1, h2, h3]), go_sgn m me hm2 l 0 num (any_out m l h4) (by omega) (by omega), mod_prog m _ hm1 hm2, Option.bind_some]
        · have h3' : mask_Mask.out m num = true := by unfold mask_Mask.out; rw [in_no m num h3]; rfl
          rw [if_pos h3', if_pos (Or.inr (Or.inr (Or.inl h3)))]
  · rw [if_neg ht, if_neg ht]

theorem mask_ref (m me num : Int) (l : List Int) : hushref12_Mask.F m me num l = some (maskV m me num l) := by
  rw [hushref12_Mask.F_eq, team_ref, Option.bind_some]
  unfold maskV
  by_cases ht : teamV m l.length = 0
  · rw [if_pos ht, if_pos ht]
    obtain ⟨hm1, hm2, hn1, hn2⟩ := teamV_zero ht
    by_cases h1 : me < 0
    · rw [if_pos h1, if_pos (Or.inl h1), hushref12_Mask.J0_eq, if_pos rfl]
    · rw [if_neg h1]
      by_cases h2 : (l.length : Int) ≤ me
      · rw [if_pos h2, if_pos (Or.inr (Or.inl h2)), hushref12_Mask.J0_eq, if_pos rfl]
      · rw [if_neg h2]
        by_cases h3 : 0 ≤ num ∧ num < m
        · obtain ⟨h3a, h3b⟩ := h3
          simp (disch := omega) only [↓if_pos, ↓if_neg, if_true, if_false, decide_eq_true_eq, Bool.false_eq_true, Bool.not_true, Bool.not_false, Bool.not_eq_true, Bool.true_eq, eq_self, Option.bind_some, Option.bind_none, beq_iff_eq, bne_iff_ne, ne_eq, not_true_eq_false, not_false_eq_true, hushref12_Mask.J0_eq]
          have := ref_l0 m me num l (by omega) l 0 rfl (by omega)
          rw [show ((0 : Nat) : Int) = 0 from rfl] at this
          rw [this]
          cases h4 : l.any (mask_Mask.out m) with
          | true => rw [if_pos rfl, if_pos (Or.inr (Or.inr (Or.inr rfl)))]
          | false =>
            rw [if_neg (by decide), if_neg (by simp [h1, h2]; omega)]
            obtain ⟨n, rfl⟩ := Int.eq_ofNat_of_zero_le (show 0 ≤ me by omega)
            have := ref_l1 m hm1 hm2 l (by omega) n (by omega) l 0 num rfl (any_out m l h4) (by omega) h3a h3b
            exact this
        · rw [if_pos (Or.inr (Or.inr (Or.inl h3)))]
          by_cases h5 : num < 0
          · rw [if_pos h5, hushref12_Mask.J0_eq, if_pos rfl]
          · rw [if_neg h5, hushref12_Mask.J0_eq, if_pos (decide_eq_true (by omega))]
  · rw [if_neg ht, if_neg ht]
end Go.Proofs.Ytjehjjpejmdfiaa.Pure

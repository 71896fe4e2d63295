/- MaskHides' pure statement: nothing but the sum is seen. Conditions: none are used. -/
import Derived.Test.YtjehjjpejmdfiaaPAx5
import Derived.Test.YtjehjjpejmdfiaaFAx5
import Derived.Test.YtjehjjpejmdfiaaMaskShares
namespace Go.Proofs.Ytjehjjpejmdfiaa.Pure
set_option linter.unusedVariables false
set_option linter.unusedSimpArgs false
open Go.RowKit Go.Proofs.Ytjehjjpejmdfiaa.PA Go.Proofs.YtjehjjpejmdfiaaW.PrintWords Go.Proofs.YtjehjjpejmdfiaaW.PrintLast Go.Proofs.YtjehjjpejmdfiaaW.PrintMore Go.Proofs.YtjehjjpejmdfiaaW.EvKit

/-- By what three share (n tells it): is what is seen as far off as told? -/
def hitN (m d0 d1 d2 n : Nat) : Bool := (n % m + n / m % m) % m == d0 && ((n / m / m + m - n % m) % m == d1 && (2 * m - n / m % m - n / m / m) % m == d2)
def cn (m d0 d1 d2 : Nat) : Nat → Nat → Nat
  | 0, _ => 0
  | d + 1, n => (if hitN m d0 d1 d2 n = true then 1 else 0) + cn m d0 d1 d2 d (n + 1)
theorem cn_val2 : ∀ d0, d0 < 2 → ∀ d1, d1 < 2 → ∀ d2, d2 < 2 → cn 2 d0 d1 d2 8 0 = if (d0 + d1 + d2) % 2 = 0 then 2 else 0 := by decide +kernel
theorem cn_val3 : ∀ d0, d0 < 3 → ∀ d1, d1 < 3 → ∀ d2, d2 < 3 → cn 3 d0 d1 d2 27 0 = if (d0 + d1 + d2) % 3 = 0 then 3 else 0 := by decide +kernel
theorem cn_val4 : ∀ d0, d0 < 4 → ∀ d1, d1 < 4 → ∀ d2, d2 < 4 → cn 4 d0 d1 d2 64 0 = if (d0 + d1 + d2) % 4 = 0 then 4 else 0 := by decide +kernel
theorem cn_val5 : ∀ d0, d0 < 5 → ∀ d1, d1 < 5 → ∀ d2, d2 < 5 → cn 5 d0 d1 d2 125 0 = if (d0 + d1 + d2) % 5 = 0 then 5 else 0 := by decide +kernel
theorem cn_val6 : ∀ d0, d0 < 6 → ∀ d1, d1 < 6 → ∀ d2, d2 < 6 → cn 6 d0 d1 d2 216 0 = if (d0 + d1 + d2) % 6 = 0 then 6 else 0 := by decide +kernel

theorem cn_same (m : Nat) (h2 : 2 ≤ m) (h6 : m ≤ 6) (a0 a1 a2 b0 b1 b2 : Nat) (ha0 : a0 < m) (ha1 : a1 < m) (ha2 : a2 < m) (hb0 : b0 < m) (hb1 : b1 < m) (hb2 : b2 < m) (h : (a0 + a1 + a2) % m = (b0 + b1 + b2) % m) :
    cn m a0 a1 a2 (m * m * m) 0 = cn m b0 b1 b2 (m * m * m) 0 := by
  have hm : m = 2 ∨ m = 3 ∨ m = 4 ∨ m = 5 ∨ m = 6 := by omega
  rcases hm with rfl | rfl | rfl | rfl | rfl
  · rw [cn_val2 a0 ha0 a1 ha1 a2 ha2, cn_val2 b0 hb0 b1 hb1 b2 hb2, h]
  · rw [cn_val3 a0 ha0 a1 ha1 a2 ha2, cn_val3 b0 hb0 b1 hb1 b2 hb2, h]
  · rw [cn_val4 a0 ha0 a1 ha1 a2 ha2, cn_val4 b0 hb0 b1 hb1 b2 hb2, h]
  · rw [cn_val5 a0 ha0 a1 ha1 a2 ha2, cn_val5 b0 hb0 b1 hb1 b2 hb2, h]
  · rw [cn_val6 a0 ha0 a1 ha1 a2 ha2, cn_val6 b0 hb0 b1 hb1 b2 hb2, h]

/-- How far off: what must be shared. -/
def off (m : Nat) (a c : Int) : Nat := ((c - a) % (m : Int)).toNat
theorem off_lt (m : Nat) (h2 : 2 ≤ m) (a c : Int) : off m a c < m := by
  unfold off
  have h1 := Int.emod_nonneg (c - a) (show (m : Int) ≠ 0 by omega)
  have h2 := Int.emod_lt_of_pos (c - a) (show 0 < (m : Int) by omega)
  omega

set_option maxHeartbeats 8000000 in
theorem hit_iff (m : Nat) (h2 : 2 ≤ m) (h6 : m ≤ 6) (n : Nat) (hn : n < m * m * m) (a0 a1 a2 c0 c1 c2 : Int) :
    (((a0 % m + ((n % m : Nat) + (n / m % m : Nat))) % m = c0 % m ∧ (a1 % m + (-(n % m : Nat) + (n / m / m : Nat))) % m = c1 % m ∧ (a2 % m + (-(n / m % m : Nat) + -(n / m / m : Nat))) % m = c2 % m)) ↔ hitN m (off m a0 c0) (off m a1 c1) (off m a2 c2) n = true := by
  unfold hitN off
  have hu : n % m < m := Nat.mod_lt _ (by omega)
  have hv : n / m % m < m := Nat.mod_lt _ (by omega)
  have ht : n / m / m < m := by
    rw [Nat.div_div_eq_div_mul]
    exact Nat.div_lt_of_lt_mul hn
  generalize n % m = u at hu ⊢
  generalize n / m % m = v at hv ⊢
  generalize n / m / m = t at ht ⊢
  rw [Bool.and_eq_true, Bool.and_eq_true, beq_iff_eq, beq_iff_eq, beq_iff_eq]
  have hm : m = 2 ∨ m = 3 ∨ m = 4 ∨ m = 5 ∨ m = 6 := by omega
  clear hn
  have q0 : (a0 % m + ((u : Nat) + (v : Nat))) % m = c0 % m ↔ (u + v) % m = ((c0 - a0) % (m : Int)).toNat := by rcases hm with rfl | rfl | rfl | rfl | rfl <;> omega
  have q1 : (a1 % m + (-(u : Nat) + (t : Nat))) % m = c1 % m ↔ (t + m - u) % m = ((c1 - a1) % (m : Int)).toNat := by rcases hm with rfl | rfl | rfl | rfl | rfl <;> omega
  have q2 : (a2 % m + (-(v : Nat) + -(t : Nat))) % m = c2 % m ↔ (2 * m - v - t) % m = ((c2 - a2) % (m : Int)).toNat := by rcases hm with rfl | rfl | rfl | rfl | rfl <;> omega
  rw [q0, q1, q2]

set_option maxHeartbeats 8000000 in
theorem off_sum (m : Nat) (h2 : 2 ≤ m) (h6 : m ≤ 6) (a0 a1 a2 b0 b1 b2 c0 c1 c2 : Int) (h : (a0 + a1 + a2) % (m : Int) = (b0 + b1 + b2) % (m : Int)) :
    (off m a0 c0 + off m a1 c1 + off m a2 c2) % m = (off m b0 c0 + off m b1 c1 + off m b2 c2) % m := by
  unfold off
  have hm : m = 2 ∨ m = 3 ∨ m = 4 ∨ m = 5 ∨ m = 6 := by omega
  rcases hm with rfl | rfl | rfl | rfl | rfl <;> omega

theorem shares3 (m : Int) (hm1 : 2 ≤ m) (hm2 : m ≤ 1073741824) (u v t : Int) : hushlaw12_shares.f m 3 [u, v, t] = some [[0, u % m, v % m], [u % m, 0, t % m], [v % m, t % m, 0]] := by
  unfold hushlaw12_shares.f
  rw [if_pos (by omega), show (3 : Int).toNat = 3 from rfl]
  simp [sh_out, sh_in, sh_s, mod_ref m _ hm1 hm2, sh_put, rd]

theorem good3 (m : Int) (hm1 : 2 ≤ m) (hm2 : m ≤ 1073741824) (u v t : Int) : Good m 3 [[0, u % m, v % m], [u % m, 0, t % m], [v % m, t % m, 0]] := by
  obtain ⟨M, h, hM⟩ := shares_some m hm1 hm2 3 (by omega) [u, v, t]
  have := (shares3 m hm1 hm2 u v t).symm.trans h
  rw [Option.some.inj this]
  exact hM

theorem len3 {l : List Int} (h : l.length = 3) : ∃ x y z, l = [x, y, z] := by
  match l, h with
  | [x, y, z], _ => exact ⟨x, y, z, rfl⟩

theorem masks3 (m : Int) (hm1 : 2 ≤ m) (hm2 : m ≤ 1073741824) (u v t a0 a1 a2 : Int) :
    hushlaw12_masks.F m [a0, a1, a2] [[0, u % m, v % m], [u % m, 0, t % m], [v % m, t % m, 0]] = some ([(a0 % m + (u % m + v % m)) % m, (a1 % m + (-(u % m) + t % m)) % m, (a2 % m + (-(v % m) + -(t % m))) % m], true) := by
  rw [masks_some m hm1 hm2 3 (by omega) (by omega) _ (good3 m hm1 hm2 u v t) [a0, a1, a2] rfl]
  simp [List.range, List.range.loop, yv, sm, sgf, rd]

theorem same3 (m : Int) (hm1 : 2 ≤ m) (hm2 : m ≤ 1073741824) (p0 p1 p2 c0 c1 c2 : Int) : hushlaw12_same.F [p0, p1, p2] [c0, c1, c2] m = some (decide (p0 = c0 % m ∧ p1 = c1 % m ∧ p2 = c2 % m)) := by
  rw [hushlaw12_same.F_eq]
  have w1 : wrap64 (0 + 1) = 1 := by decide +kernel
  have w2 : wrap64 (1 + 1) = 2 := by decide +kernel
  have w3 : wrap64 (2 + 1) = 3 := by decide +kernel
  have r0 : ∀ x y z : Int, rd [x, y, z] 0 = x := fun _ _ _ => rfl
  have r1 : ∀ x y z : Int, rd [x, y, z] 1 = y := fun _ _ _ => rfl
  have r2 : ∀ x y z : Int, rd [x, y, z] 2 = z := fun _ _ _ => rfl
  have hl : ∀ x y z : Int, (([x, y, z] : List Int).length : Int) = 3 := fun _ _ _ => rfl
  rw [hl, hushlaw12_same.L0_eq, hl, hl, r0, r0, mod_ref m _ hm1 hm2]
  by_cases h0 : p0 = c0 % m
  · simp (disch := omega) only [↓if_pos, ↓if_neg, if_true, if_false, decide_eq_true_eq, Bool.false_eq_true, Bool.not_true, Bool.not_false, Bool.not_eq_true, Bool.true_eq, eq_self, Option.bind_some, Option.bind_none, beq_iff_eq, bne_iff_ne, ne_eq, not_true_eq_false, not_false_eq_true, w1]
    rw [hushlaw12_same.L0_eq, hl, hl, r1, r1, mod_ref m _ hm1 hm2]
    by_cases h1 : p1 = c1 % m
    · simp (disch := omega) only [↓if_pos, ↓if_neg, if_true, if_false, decide_eq_true_eq, Bool.false_eq_true, Bool.not_true, Bool.not_false, Bool.not_eq_true, Bool.true_eq, eq_self, Option.bind_some, Option.bind_none, beq_iff_eq, bne_iff_ne, ne_eq, not_true_eq_false, not_false_eq_true, w2]
      rw [hushlaw12_same.L0_eq, hl, hl, r2, r2, mod_ref m _ hm1 hm2]
      by_cases h2 : p2 = c2 % m
      · simp (disch := omega) only [↓if_pos, ↓if_neg, if_true, if_false, decide_eq_true_eq, Bool.false_eq_true, Bool.not_true, Bool.not_false, Bool.not_eq_true, Bool.true_eq, eq_self, Option.bind_some, Option.bind_none, beq_iff_eq, bne_iff_ne, ne_eq, not_true_eq_false, not_false_eq_true, w3]
        rw [hushlaw12_same.L0_eq, if_neg (by omega), decide_eq_true ⟨h0, h1, h2⟩]
      · simp (disch := omega) only [↓if_pos, ↓if_neg, if_true, if_false, decide_eq_true_eq, Bool.false_eq_true, Bool.not_true, Bool.not_false, Bool.not_eq_true, Bool.true_eq, eq_self, Option.bind_some, Option.bind_none, beq_iff_eq, bne_iff_ne, ne_eq, not_true_eq_false, not_false_eq_true, w3]
        rw [decide_eq_false (fun h => h2 h.2.2)]
    · simp (disch := omega) only [↓if_pos, ↓if_neg, if_true, if_false, decide_eq_true_eq, Bool.false_eq_true, Bool.not_true, Bool.not_false, Bool.not_eq_true, Bool.true_eq, eq_self, Option.bind_some, Option.bind_none, beq_iff_eq, bne_iff_ne, ne_eq, not_true_eq_false, not_false_eq_true, w2]
      rw [decide_eq_false (fun h => h1 h.2.1)]
  · simp (disch := omega) only [↓if_pos, ↓if_neg, if_true, if_false, decide_eq_true_eq, Bool.false_eq_true, Bool.not_true, Bool.not_false, Bool.not_eq_true, Bool.true_eq, eq_self, Option.bind_some, Option.bind_none, beq_iff_eq, bne_iff_ne, ne_eq, not_true_eq_false, not_false_eq_true, w1]
    rw [decide_eq_false (fun h => h0 h.1)]

theorem mod_small (m : Nat) (x : Nat) (h : x < m) : (x : Int) % (m : Int) = (x : Int) := Int.emod_eq_of_lt (by omega) (by omega)

theorem l1_F (m : Nat) (h2 : 2 ≤ m) (h6 : m ≤ 6) (a0 a1 a2 b0 b1 b2 c0 c1 c2 : Int) (d : Nat) : ∀ (n x y : Nat), n + d = m * m * m → x ≤ n → y ≤ n →
    hushlaw12_MaskHides.L1 (m : Int) [a0, a1, a2] [b0, b1, b2] [c0, c1, c2] (x : Int) (y : Int) (n : Int) = some (((x + cn m (off m a0 c0) (off m a1 c1) (off m a2 c2) d n : Nat) : Int) == ((y + cn m (off m b0 c0) (off m b1 c1) (off m b2 c2) d n : Nat) : Int)) := by
  have hcube : m * m * m ≤ 216 := by
    have hm : m = 2 ∨ m = 3 ∨ m = 4 ∨ m = 5 ∨ m = 6 := by omega
    rcases hm with rfl | rfl | rfl | rfl | rfl <;> omega
  have hw : wrap64 (wrap64 ((m : Int) * (m : Int)) * (m : Int)) = ((m * m * m : Nat) : Int) := by
    have hm : m = 2 ∨ m = 3 ∨ m = 4 ∨ m = 5 ∨ m = 6 := by omega
    rcases hm with rfl | rfl | rfl | rfl | rfl <;> decide +kernel
  induction d with
  | zero =>
    intro n x y hn _ _
    rw [hushlaw12_MaskHides.L1_eq, hw, if_neg (by omega), cn, cn]
    rfl
  | succ d ih =>
    intro n x y hn hx hy
    have hlt : n < m * m * m := by omega
    rw [hushlaw12_MaskHides.L1_eq, hw, if_pos (by omega), if_neg (by omega)]
    have wn : ∀ z : Nat, z ≤ n → wrap64 (z : Int) = (z : Int) := fun z hz => wrap64_of (by omega) (by omega)
    have e1 : Int.tmod (n : Int) (m : Int) = ((n % m : Nat) : Int) := by rw [Int.tmod_eq_emod_of_nonneg (Int.natCast_nonneg _)]; rfl
    have e2 : wrap64 (Int.tdiv (n : Int) (m : Int)) = ((n / m : Nat) : Int) := by
      rw [Int.tdiv_eq_ediv_of_nonneg (Int.natCast_nonneg _)]
      exact wn _ (Nat.div_le_self n m)
    have e3 : Int.tmod ((n / m : Nat) : Int) (m : Int) = ((n / m % m : Nat) : Int) := by rw [Int.tmod_eq_emod_of_nonneg (Int.natCast_nonneg _)]; rfl
    have e4 : wrap64 (Int.tdiv ((n / m : Nat) : Int) (m : Int)) = ((n / m / m : Nat) : Int) := by
      rw [Int.tdiv_eq_ediv_of_nonneg (Int.natCast_nonneg _)]
      exact wn _ (Nat.le_trans (Nat.div_le_self (n / m) m) (Nat.div_le_self n m))
    rw [e1, e2, e3, e4, shares3 (m : Int) (by omega) (by omega), Option.bind_some, masks3 (m : Int) (by omega) (by omega), masks3 (m : Int) (by omega) (by omega)]
    have hu : n % m < m := Nat.mod_lt _ (by omega)
    have hv : n / m % m < m := Nat.mod_lt _ (by omega)
    have ht : n / m / m < m := by
      rw [Nat.div_div_eq_div_mul]
      exact Nat.div_lt_of_lt_mul hlt
    rw [mod_small m _ hu, mod_small m _ hv, mod_small m _ ht]
    simp only [Option.bind_some, if_true, Bool.not_true]
    rw [hushlaw12_MaskHides.J3_eq, if_neg (by decide), same3 (m : Int) (by omega) (by omega), same3 (m : Int) (by omega) (by omega)]
    simp only [Option.bind_some]
    have hA := hit_iff m h2 h6 n hlt a0 a1 a2 c0 c1 c2
    have hB := hit_iff m h2 h6 n hlt b0 b1 b2 c0 c1 c2
    have w1 : ∀ z : Nat, z ≤ n → wrap64 ((z : Int) + 1) = ((z + 1 : Nat) : Int) := fun z hz => by rw [wrap64_of (by omega) (by omega)]; rfl
    rw [w1 x hx, w1 y hy, w1 n (by omega), cn, cn]
    simp only [decide_eq_true_eq, hA, hB]
    by_cases hAt : hitN m (off m a0 c0) (off m a1 c1) (off m a2 c2) n = true
    · rw [if_pos hAt, if_pos hAt]
      by_cases hBt : hitN m (off m b0 c0) (off m b1 c1) (off m b2 c2) n = true
      · rw [if_pos hBt, if_pos hBt, ih (n + 1) (x + 1) (y + 1) (by omega) (by omega) (by omega), Nat.add_assoc, Nat.add_assoc]
      · rw [if_neg hBt, if_neg hBt, ih (n + 1) (x + 1) y (by omega) (by omega) (by omega), Nat.add_assoc, Nat.zero_add]
    · rw [if_neg hAt, if_neg hAt]
      by_cases hBt : hitN m (off m b0 c0) (off m b1 c1) (off m b2 c2) n = true
      · rw [if_pos hBt, if_pos hBt, ih (n + 1) x (y + 1) (by omega) (by omega) (by omega), Nat.zero_add, Nat.add_assoc]
      · rw [if_neg hBt, if_neg hBt, ih (n + 1) x y (by omega) (by omega) (by omega), Nat.zero_add, Nat.zero_add]

theorem sum3 (m a0 a1 a2 : Int) : (((0 + a0 % m) % m + a1 % m) % m + a2 % m) % m = (a0 + a1 + a2) % m := by
  simp [Int.add_emod]

theorem MaskHides : hushlaw12_MaskHides.Pure := by
  intro p l1 l2 l3 _ _ _ _
  refine (hushlaw12_MaskHides.F_is p l1 l2 l3).rounds ?_
  rw [hushlaw12_MaskHides.F_eq, alive_F]
  by_cases h1 : p < 2
  · simp (disch := omega) only [↓if_pos, ↓if_neg, if_true, if_false, decide_eq_true_eq, Bool.false_eq_true, Bool.not_true, Bool.not_false, Bool.not_eq_true, Bool.true_eq, eq_self, Option.bind_some, Option.bind_none, beq_iff_eq, bne_iff_ne, ne_eq, not_true_eq_false, not_false_eq_true, hushlaw12_MaskHides.J0_eq]
  · by_cases h2 : p > 6
    · simp (disch := omega) only [↓if_pos, ↓if_neg, if_true, if_false, decide_eq_true_eq, Bool.false_eq_true, Bool.not_true, Bool.not_false, Bool.not_eq_true, Bool.true_eq, eq_self, Option.bind_some, Option.bind_none, beq_iff_eq, bne_iff_ne, ne_eq, not_true_eq_false, not_false_eq_true, hushlaw12_MaskHides.J0_eq]
    · by_cases h3 : (l1.length : Int) = 3
      · by_cases h4 : (l2.length : Int) = 3
        · by_cases h5 : (l3.length : Int) = 3
          · obtain ⟨m, rfl⟩ := Int.eq_ofNat_of_zero_le (show 0 ≤ p by omega)
            obtain ⟨a0, a1, a2, rfl⟩ := len3 (show l1.length = 3 by omega)
            obtain ⟨b0, b1, b2, rfl⟩ := len3 (show l2.length = 3 by omega)
            obtain ⟨c0, c1, c2, rfl⟩ := len3 (show l3.length = 3 by omega)
            simp (disch := omega) only [↓if_pos, ↓if_neg, if_true, if_false, decide_eq_true_eq, Bool.false_eq_true, Bool.not_true, Bool.not_false, Bool.not_eq_true, Bool.true_eq, eq_self, Option.bind_some, Option.bind_none, beq_iff_eq, bne_iff_ne, ne_eq, not_true_eq_false, not_false_eq_true, hushlaw12_MaskHides.J0_eq]
            have hm1 : (2 : Int) ≤ (m : Int) := by omega
            have hm2 : (m : Int) ≤ 1073741824 := by omega
            have w1 : wrap64 (0 + 1) = 1 := by decide +kernel
            have w2 : wrap64 (1 + 1) = 2 := by decide +kernel
            have w3 : wrap64 (2 + 1) = 3 := by decide +kernel
            have r0 : ∀ x y z : Int, rd [x, y, z] 0 = x := fun _ _ _ => rfl
            have r1 : ∀ x y z : Int, rd [x, y, z] 1 = y := fun _ _ _ => rfl
            have r2 : ∀ x y z : Int, rd [x, y, z] 2 = z := fun _ _ _ => rfl
            have hl : ∀ x y z : Int, (([x, y, z] : List Int).length : Int) = 3 := fun _ _ _ => rfl
            have wm : ∀ x y : Int, 0 ≤ x → x < m → wrap64 (x + y % (m : Int)) = x + y % (m : Int) := fun x y q1 q2 => by
              have e1 := Int.emod_nonneg y (show (m : Int) ≠ 0 by omega)
              have e2 := Int.emod_lt_of_pos y (show 0 < (m : Int) by omega)
              exact wrap64_of (by omega) (by omega)
            have bn : ∀ x : Int, 0 ≤ x % (m : Int) ∧ x % (m : Int) < m := fun x => ⟨Int.emod_nonneg x (by omega), Int.emod_lt_of_pos x (by omega)⟩
            rw [hushlaw12_MaskHides.L0_eq]
            simp only [hl, r0, mod_ref (m : Int) _ hm1 hm2, Option.bind_some, w1, wm 0 _ (by omega) (by omega)]
            simp (disch := omega) only [↓if_pos, ↓if_neg, if_true, if_false, decide_eq_true_eq, Bool.false_eq_true, Bool.not_true, Bool.not_false, Bool.not_eq_true, Bool.true_eq, eq_self, Option.bind_some, Option.bind_none, beq_iff_eq, bne_iff_ne, ne_eq, not_true_eq_false, not_false_eq_true]
            rw [hushlaw12_MaskHides.L0_eq]
            simp only [hl, r1, mod_ref (m : Int) _ hm1 hm2, Option.bind_some, w2]
            rw [wm _ _ (bn _).1 (bn _).2, wm _ _ (bn _).1 (bn _).2]
            simp (disch := omega) only [↓if_pos, ↓if_neg, if_true, if_false, decide_eq_true_eq, Bool.false_eq_true, Bool.not_true, Bool.not_false, Bool.not_eq_true, Bool.true_eq, eq_self, Option.bind_some, Option.bind_none, beq_iff_eq, bne_iff_ne, ne_eq, not_true_eq_false, not_false_eq_true]
            rw [hushlaw12_MaskHides.L0_eq]
            simp only [hl, r2, mod_ref (m : Int) _ hm1 hm2, Option.bind_some, w3]
            rw [wm _ _ (bn _).1 (bn _).2, wm _ _ (bn _).1 (bn _).2]
            simp (disch := omega) only [↓if_pos, ↓if_neg, if_true, if_false, decide_eq_true_eq, Bool.false_eq_true, Bool.not_true, Bool.not_false, Bool.not_eq_true, Bool.true_eq, eq_self, Option.bind_some, Option.bind_none, beq_iff_eq, bne_iff_ne, ne_eq, not_true_eq_false, not_false_eq_true]
            rw [hushlaw12_MaskHides.L0_eq, if_neg (by omega), sum3, sum3]
            by_cases hs : (a0 + a1 + a2) % (m : Int) = (b0 + b1 + b2) % (m : Int)
            · rw [if_pos hs]
              have := l1_F m (by omega) (by omega) a0 a1 a2 b0 b1 b2 c0 c1 c2 (m * m * m) 0 0 0 (by omega) (by omega) (by omega)
              rw [cn_same m (by omega) (by omega) _ _ _ _ _ _ (off_lt m (by omega) _ _) (off_lt m (by omega) _ _) (off_lt m (by omega) _ _) (off_lt m (by omega) _ _) (off_lt m (by omega) _ _) (off_lt m (by omega) _ _) (off_sum m (by omega) (by omega) a0 a1 a2 b0 b1 b2 c0 c1 c2 hs)] at this
              rw [show ((0 : Nat) : Int) = 0 from rfl] at this
              rw [this]
              simp
            · rw [if_neg hs]
          · simp (disch := omega) only [↓if_pos, ↓if_neg, if_true, if_false, decide_eq_true_eq, Bool.false_eq_true, Bool.not_true, Bool.not_false, Bool.not_eq_true, Bool.true_eq, eq_self, Option.bind_some, Option.bind_none, beq_iff_eq, bne_iff_ne, ne_eq, not_true_eq_false, not_false_eq_true, hushlaw12_MaskHides.J0_eq]
        · simp (disch := omega) only [↓if_pos, ↓if_neg, if_true, if_false, decide_eq_true_eq, Bool.false_eq_true, Bool.not_true, Bool.not_false, Bool.not_eq_true, Bool.true_eq, eq_self, Option.bind_some, Option.bind_none, beq_iff_eq, bne_iff_ne, ne_eq, not_true_eq_false, not_false_eq_true, hushlaw12_MaskHides.J0_eq]
      · simp (disch := omega) only [↓if_pos, ↓if_neg, if_true, if_false, decide_eq_true_eq, Bool.false_eq_true, Bool.not_true, Bool.not_false, Bool.not_eq_true, Bool.true_eq, eq_self, Option.bind_some, Option.bind_none, beq_iff_eq, bne_iff_ne, ne_eq, not_true_eq_false, not_false_eq_true, hushlaw12_MaskHides.J0_eq]
end Go.Proofs.Ytjehjjpejmdfiaa.Pure

/- Fractions in lowest terms: what Make gives is one, of the same value; signs of differences. Conditions: in the theorems. -/
import Derived.Test.YtnlkacmkakgaoaaRatioSpec
namespace Go.Proofs.Ytnlkacmkakgaoaa.RatioSpec

theorem makeS_ok {u d p q : Int} (h : makeS u d = (p, q, 0)) : 0 ≤ u ∧ 1 ≤ d ∧ rightS p q = true ∧ p * d = u * q := by
  unfold makeS at h
  split at h
  · simp at h
  · rename_i h0
    split at h
    · simp at h
    · rename_i h1
      have hd : 1 ≤ d := by omega
      have hu : 0 ≤ u := by omega
      have hg := gcd_pos (u := u) hd
      simp only [Prod.mk.injEq, and_true] at h
      obtain ⟨rfl, rfl⟩ := h
      have e1 : (Int.gcd u d : Int) * (u / (Int.gcd u d : Nat)) = u := Int.mul_ediv_cancel' (Int.gcd_dvd_left u d)
      have e2 : (Int.gcd u d : Int) * (d / (Int.gcd u d : Nat)) = d := Int.mul_ediv_cancel' (Int.gcd_dvd_right u d)
      have hq : 1 ≤ d / (Int.gcd u d : Nat) := by
        rcases Int.lt_or_le (d / (Int.gcd u d : Nat)) 1 with hl | hl
        · have : (Int.gcd u d : Int) * (d / (Int.gcd u d : Nat)) ≤ 0 := Int.mul_nonpos_of_nonneg_of_nonpos (by omega) (by omega)
          omega
        · exact hl
      refine ⟨hu, hd, rightS_iff.2 ⟨Int.ediv_nonneg hu (by omega), hq, by omega, by omega, ?_⟩, ?_⟩
      · exact Int.gcd_ediv_gcd_ediv_gcd hg
      · calc u / (Int.gcd u d : Nat) * d = u / (Int.gcd u d : Nat) * ((Int.gcd u d : Int) * (d / (Int.gcd u d : Nat))) := by rw [e2]
          _ = ((Int.gcd u d : Int) * (u / (Int.gcd u d : Nat))) * (d / (Int.gcd u d : Nat)) := by grind
          _ = u * (d / (Int.gcd u d : Nat)) := by rw [e1]

/-- Less, the same, more. -/
def cmp3 (m n : Int) : Int := if m < n then -1 else if m > n then 1 else 0
theorem cmp3_sign (m n : Int) : cmp3 m n = (m - n).sign := by
  unfold cmp3
  split
  · rw [Int.sign_eq_neg_one_of_neg (by omega)]
  · split
    · rw [Int.sign_eq_one_of_pos (by omega)]
    · rw [show m - n = 0 by omega]; rfl
theorem cmp3_of {m n m' n' K L : Int} (hK : 0 < K) (hL : 0 < L) (h : (m - n) * K = L * (m' - n')) : cmp3 m n = cmp3 m' n' := by
  rw [cmp3_sign, cmp3_sign]
  have h1 := congrArg Int.sign h
  rw [Int.sign_mul, Int.sign_mul, Int.sign_eq_one_of_pos hK, Int.sign_eq_one_of_pos hL] at h1
  omega
theorem cmp3_neg (m n : Int) : cmp3 n m = -cmp3 m n := by
  unfold cmp3
  split <;> split <;> (try split) <;> omega
theorem cmp3_zero {m n : Int} : cmp3 m n = 0 ↔ m = n := by
  unfold cmp3
  split
  · omega
  · split <;> omega

theorem right_same {a0 a1 b0 b1 : Int} (ha : rightS a0 a1 = true) (hb : rightS b0 b1 = true) (h : a0 * b1 = b0 * a1) : a0 = b0 ∧ a1 = b1 := by
  obtain ⟨p1, p2, _, _, p5⟩ := rightS_iff.1 ha
  obtain ⟨q1, q2, _, _, q5⟩ := rightS_iff.1 hb
  obtain ⟨a, rfl⟩ := Int.eq_ofNat_of_zero_le p1
  obtain ⟨b, rfl⟩ := Int.eq_ofNat_of_zero_le (show 0 ≤ a1 by omega)
  obtain ⟨c, rfl⟩ := Int.eq_ofNat_of_zero_le q1
  obtain ⟨d, rfl⟩ := Int.eq_ofNat_of_zero_le (show 0 ≤ b1 by omega)
  have hab : Nat.Coprime a b := p5
  have hcd : Nat.Coprime c d := q5
  have hn : a * d = c * b := by exact_mod_cast h
  have h1 : b ∣ d := hab.symm.dvd_of_dvd_mul_left (by rw [hn]; exact Nat.dvd_mul_left b c)
  have h2 : d ∣ b := hcd.symm.dvd_of_dvd_mul_left (by rw [← hn]; exact Nat.dvd_mul_left d a)
  have hbd : b = d := Nat.dvd_antisymm h1 h2
  subst hbd
  have : a = c := Nat.eq_of_mul_eq_mul_right (by omega) hn
  omega

/-- Two fractions that are Made of one value are one. -/
theorem makeS_same {u d u' d' : Int} (hu : 0 ≤ u) (hd : 1 ≤ d) (hu' : 0 ≤ u') (hd' : 1 ≤ d') (h : u * d' = u' * d) : makeS u d = makeS u' d' := by
  have key : ∀ {u d : Int}, 0 ≤ u → 1 ≤ d → ∃ p q : Int, 0 ≤ p ∧ 1 ≤ q ∧ Int.gcd p q = 1 ∧ p * d = u * q ∧ makeS u d = if p > 1073741824 ∨ q > 1073741824 then (0, 0, 4) else (p, q, 0) := by
    intro u d hu hd
    have hg := gcd_pos (u := u) hd
    have e1 : (Int.gcd u d : Int) * (u / (Int.gcd u d : Nat)) = u := Int.mul_ediv_cancel' (Int.gcd_dvd_left u d)
    have e2 : (Int.gcd u d : Int) * (d / (Int.gcd u d : Nat)) = d := Int.mul_ediv_cancel' (Int.gcd_dvd_right u d)
    have hq : 1 ≤ d / (Int.gcd u d : Nat) := by
      rcases Int.lt_or_le (d / (Int.gcd u d : Nat)) 1 with hl | hl
      · have : (Int.gcd u d : Int) * (d / (Int.gcd u d : Nat)) ≤ 0 := Int.mul_nonpos_of_nonneg_of_nonpos (by omega) (by omega)
        omega
      · exact hl
    refine ⟨u / (Int.gcd u d : Nat), d / (Int.gcd u d : Nat), Int.ediv_nonneg hu (by omega), hq, Int.gcd_ediv_gcd_ediv_gcd hg, ?_, ?_⟩
    · calc u / (Int.gcd u d : Nat) * d = u / (Int.gcd u d : Nat) * ((Int.gcd u d : Int) * (d / (Int.gcd u d : Nat))) := by rw [e2]
        _ = ((Int.gcd u d : Int) * (u / (Int.gcd u d : Nat))) * (d / (Int.gcd u d : Nat)) := by grind
        _ = u * (d / (Int.gcd u d : Nat)) := by rw [e1]
    · unfold makeS
      rw [if_neg (by omega)]
  obtain ⟨p, q, p0, q1, g1, e1, m1⟩ := key hu hd
  obtain ⟨p', q', p0', q1', g1', e1', m1'⟩ := key hu' hd'
  have hx : p * q' = p' * q := by
    have h1 : (p * q') * (d * d') = (p' * q) * (d * d') := by grind
    exact Int.eq_of_mul_eq_mul_right (by have := Int.mul_pos (show 0 < d by omega) (show 0 < d' by omega); omega) h1
  obtain ⟨a, rfl⟩ := Int.eq_ofNat_of_zero_le p0
  obtain ⟨b, rfl⟩ := Int.eq_ofNat_of_zero_le (show 0 ≤ q by omega)
  obtain ⟨c, rfl⟩ := Int.eq_ofNat_of_zero_le p0'
  obtain ⟨e, rfl⟩ := Int.eq_ofNat_of_zero_le (show 0 ≤ q' by omega)
  have hab : Nat.Coprime a b := g1
  have hcd : Nat.Coprime c e := g1'
  have hn : a * e = c * b := by exact_mod_cast hx
  have h1 : b ∣ e := hab.symm.dvd_of_dvd_mul_left (by rw [hn]; exact Nat.dvd_mul_left b c)
  have h2 : e ∣ b := hcd.symm.dvd_of_dvd_mul_left (by rw [← hn]; exact Nat.dvd_mul_left e a)
  have hbd : b = e := Nat.dvd_antisymm h1 h2
  subst hbd
  have : a = c := Nat.eq_of_mul_eq_mul_right (by omega) hn
  subst this
  rw [m1, m1']

theorem orderS_right {a0 a1 b0 b1 : Int} (ha : rightS a0 a1 = true) (hb : rightS b0 b1 = true) : orderS a0 a1 b0 b1 = (cmp3 (a0 * b1) (b0 * a1), 0) := by
  unfold orderS cmp3
  rw [if_pos ⟨ha, hb⟩]
end Go.Proofs.Ytnlkacmkakgaoaa.RatioSpec

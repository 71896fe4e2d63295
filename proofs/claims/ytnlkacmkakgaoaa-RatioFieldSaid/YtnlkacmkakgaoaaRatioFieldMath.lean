/- Fractions are reckoned with as fractions are: plain laws of what is told. Conditions stand in each theorem. -/
import Derived.Test.YtnlkacmkakgaoaaRatioMath
namespace Go.Proofs.Ytnlkacmkakgaoaa.RatioSpec

theorem bothS_ok' {a0 a1 b0 b1 p q : Int} {r : Int × Int × Int} (h : bothS a0 a1 b0 b1 r = (p, q, 0)) : rightS a0 a1 = true ∧ rightS b0 b1 = true ∧ r = (p, q, 0) := by
  unfold bothS at h
  split at h
  · rename_i h0
    exact ⟨h0.1, h0.2, h⟩
  · simp at h
theorem bothS_right {a0 a1 b0 b1 : Int} {r : Int × Int × Int} (h : rightS a0 a1 = true) (h' : rightS b0 b1 = true) : bothS a0 a1 b0 b1 r = r := by
  unfold bothS
  rw [if_pos ⟨h, h'⟩]

/-- A sum, or a product. -/
def opS (plus : Bool) (a0 a1 b0 b1 : Int) : Int × Int × Int := if plus = true then plusS a0 a1 b0 b1 else timesS a0 a1 b0 b1

theorem op_comm (plus : Bool) (a0 a1 b0 b1 : Int) : opS plus a0 a1 b0 b1 = opS plus b0 b1 a0 a1 := by
  have hand : (rightS a0 a1 = true ∧ rightS b0 b1 = true) ↔ (rightS b0 b1 = true ∧ rightS a0 a1 = true) := And.comm
  cases plus with
  | true =>
    show plusS a0 a1 b0 b1 = plusS b0 b1 a0 a1
    unfold plusS bothS
    simp only [hand]
    rw [Int.mul_comm b1 a1, Int.add_comm (a0 * b1)]
  | false =>
    show timesS a0 a1 b0 b1 = timesS b0 b1 a0 a1
    unfold timesS bothS
    simp only [hand]
    rw [Int.mul_comm b1 a1, Int.mul_comm b0 a0]

theorem op_assoc (plus : Bool) {a0 a1 b0 b1 c0 c1 p q p' q' : Int} (h : opS plus a0 a1 b0 b1 = (p, q, 0)) (h' : opS plus b0 b1 c0 c1 = (p', q', 0)) :
    opS plus p q c0 c1 = opS plus a0 a1 p' q' := by
  cases plus with
  | true =>
    obtain ⟨ha, hb, e⟩ := bothS_ok' (show bothS _ _ _ _ _ = (p, q, 0) from h)
    obtain ⟨_, hc, e'⟩ := bothS_ok' (show bothS _ _ _ _ _ = (p', q', 0) from h')
    obtain ⟨_, _, r1, m1⟩ := makeS_ok e
    obtain ⟨_, _, r2, m2⟩ := makeS_ok e'
    obtain ⟨a1', a2', _, _, _⟩ := rightS_iff.1 ha
    obtain ⟨b1', b2', _, _, _⟩ := rightS_iff.1 hb
    obtain ⟨c1', c2', _, _, _⟩ := rightS_iff.1 hc
    obtain ⟨u1, u2, _, _, _⟩ := rightS_iff.1 r1
    obtain ⟨v1, v2, _, _, _⟩ := rightS_iff.1 r2
    show plusS p q c0 c1 = plusS a0 a1 p' q'
    unfold plusS
    rw [bothS_right r1 hc, bothS_right ha r2]
    refine makeS_same ?_ ?_ ?_ ?_ ?_
    · exact Int.add_nonneg (Int.mul_nonneg u1 (by omega)) (Int.mul_nonneg c1' (by omega))
    · have := Int.mul_pos (show 0 < q by omega) (show 0 < c1 by omega); omega
    · exact Int.add_nonneg (Int.mul_nonneg a1' (by omega)) (Int.mul_nonneg v1 (by omega))
    · have := Int.mul_pos (show 0 < a1 by omega) (show 0 < q' by omega); omega
    · refine Int.eq_of_mul_eq_mul_right (show b1 ≠ 0 by omega) ?_
      grind
  | false =>
    obtain ⟨ha, hb, e⟩ := bothS_ok' (show bothS _ _ _ _ _ = (p, q, 0) from h)
    obtain ⟨_, hc, e'⟩ := bothS_ok' (show bothS _ _ _ _ _ = (p', q', 0) from h')
    obtain ⟨_, _, r1, m1⟩ := makeS_ok e
    obtain ⟨_, _, r2, m2⟩ := makeS_ok e'
    obtain ⟨a1', a2', _, _, _⟩ := rightS_iff.1 ha
    obtain ⟨b1', b2', _, _, _⟩ := rightS_iff.1 hb
    obtain ⟨c1', c2', _, _, _⟩ := rightS_iff.1 hc
    obtain ⟨u1, u2, _, _, _⟩ := rightS_iff.1 r1
    obtain ⟨v1, v2, _, _, _⟩ := rightS_iff.1 r2
    show timesS p q c0 c1 = timesS a0 a1 p' q'
    unfold timesS
    rw [bothS_right r1 hc, bothS_right ha r2]
    refine makeS_same ?_ ?_ ?_ ?_ ?_
    · exact Int.mul_nonneg u1 c1'
    · have := Int.mul_pos (show 0 < q by omega) (show 0 < c1 by omega); omega
    · exact Int.mul_nonneg a1' v1
    · have := Int.mul_pos (show 0 < a1 by omega) (show 0 < q' by omega); omega
    · refine Int.eq_of_mul_eq_mul_right (show b1 ≠ 0 by omega) ?_
      grind

theorem op_distr {a0 a1 b0 b1 c0 c1 s t p q p' q' : Int} (hs : plusS b0 b1 c0 c1 = (s, t, 0)) (h : timesS a0 a1 b0 b1 = (p, q, 0)) (h' : timesS a0 a1 c0 c1 = (p', q', 0)) :
    timesS a0 a1 s t = plusS p q p' q' := by
  obtain ⟨hb, hc, e⟩ := bothS_ok' (show bothS _ _ _ _ _ = (s, t, 0) from hs)
  obtain ⟨ha, _, e1⟩ := bothS_ok' (show bothS _ _ _ _ _ = (p, q, 0) from h)
  obtain ⟨_, _, e2⟩ := bothS_ok' (show bothS _ _ _ _ _ = (p', q', 0) from h')
  obtain ⟨_, _, r0, m0⟩ := makeS_ok e
  obtain ⟨_, _, r1, m1⟩ := makeS_ok e1
  obtain ⟨_, _, r2, m2⟩ := makeS_ok e2
  obtain ⟨a1', a2', _, _, _⟩ := rightS_iff.1 ha
  obtain ⟨b1', b2', _, _, _⟩ := rightS_iff.1 hb
  obtain ⟨c1', c2', _, _, _⟩ := rightS_iff.1 hc
  obtain ⟨s1, s2, _, _, _⟩ := rightS_iff.1 r0
  obtain ⟨u1, u2, _, _, _⟩ := rightS_iff.1 r1
  obtain ⟨v1, v2, _, _, _⟩ := rightS_iff.1 r2
  unfold timesS plusS
  rw [bothS_right ha r0, bothS_right r1 r2]
  refine makeS_same ?_ ?_ ?_ ?_ ?_
  · exact Int.mul_nonneg a1' s1
  · have := Int.mul_pos (show 0 < a1 by omega) (show 0 < t by omega); omega
  · exact Int.add_nonneg (Int.mul_nonneg u1 (by omega)) (Int.mul_nonneg v1 (by omega))
  · have := Int.mul_pos (show 0 < q by omega) (show 0 < q' by omega); omega
  · have hp := Int.mul_pos (show 0 < b1 by omega) (show 0 < c1 by omega)
    have hp2 := Int.mul_pos (show 0 < a1 by omega) hp
    have g1 : p * (q' * (a1 * (b1 * c1))) = a0 * b0 * c1 * q * q' := by grind
    have g2 : p' * (q * (a1 * (b1 * c1))) = a0 * c0 * b1 * q * q' := by grind
    have g3 : a0 * s * (a1 * (b1 * c1)) = a0 * a1 * (b0 * c1 + c0 * b1) * t := by grind
    have hx : (a0 * s * (q * q')) * (a1 * (b1 * c1)) = ((p * q' + p' * q) * (a1 * t)) * (a1 * (b1 * c1)) := by grind
    exact Int.eq_of_mul_eq_mul_right (by omega) hx

/-- Make of what is made already is that itself. -/
theorem makeS_self {p q u d : Int} (h : rightS p q = true) (hu : 0 ≤ u) (hd : 1 ≤ d) (e : u * q = p * d) : makeS u d = (p, q, 0) := by
  obtain ⟨h1, h2, h3, h4, h5⟩ := rightS_iff.1 h
  rw [makeS_same hu hd h1 h2 e]
  unfold makeS
  rw [if_neg (by omega), h5, if_neg (by simp; omega)]
  simp

theorem over_back {a0 a1 b0 b1 p q : Int} (h : overS a0 a1 b0 b1 = (p, q, 0)) : timesS p q b0 b1 = (a0, a1, 0) := by
  obtain ⟨ha, hb, e⟩ := bothS_ok' (show bothS _ _ _ _ _ = (p, q, 0) from h)
  obtain ⟨z1, z2, r1, m1⟩ := makeS_ok e
  obtain ⟨a1', a2', _, _, _⟩ := rightS_iff.1 ha
  obtain ⟨b1', b2', _, _, _⟩ := rightS_iff.1 hb
  obtain ⟨u1, u2, _, _, _⟩ := rightS_iff.1 r1
  unfold timesS
  rw [bothS_right r1 hb]
  have hb0 : 0 < b0 := by
    rcases Int.lt_or_eq_of_le b1' with h | h
    · exact h
    · rw [← h] at z2; simp at z2
  refine makeS_self ha (Int.mul_nonneg u1 b1') ?_ ?_
  · have := Int.mul_pos (show 0 < q by omega) (show 0 < b1 by omega); omega
  · grind

theorem minus_back {a0 a1 b0 b1 p q : Int} (h : minusS a0 a1 b0 b1 = (p, q, 0)) : plusS p q b0 b1 = (a0, a1, 0) := by
  obtain ⟨ha, hb, e⟩ := bothS_ok' (show bothS _ _ _ _ _ = (p, q, 0) from h)
  obtain ⟨z1, z2, r1, m1⟩ := makeS_ok e
  obtain ⟨a1', a2', _, _, _⟩ := rightS_iff.1 ha
  obtain ⟨b1', b2', _, _, _⟩ := rightS_iff.1 hb
  obtain ⟨u1, u2, _, _, _⟩ := rightS_iff.1 r1
  unfold plusS
  rw [bothS_right r1 hb]
  refine makeS_self ha (Int.add_nonneg (Int.mul_nonneg u1 (by omega)) (Int.mul_nonneg b1' (by omega))) ?_ ?_
  · have := Int.mul_pos (show 0 < q by omega) (show 0 < b1 by omega); omega
  · refine Int.eq_of_mul_eq_mul_right (show b1 ≠ 0 by omega) ?_
    grind
end Go.Proofs.Ytnlkacmkakgaoaa.RatioSpec

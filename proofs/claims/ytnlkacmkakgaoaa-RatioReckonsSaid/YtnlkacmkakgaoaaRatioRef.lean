/- The reference's divisor, by halving and subtracting, is the greatest; what its Make and Right come to. Conditions: in the theorems. -/
import Derived.Test.YtnlkacmkakgaoaaPAx7
import Derived.Test.YtnlkacmkakgaoaaPAx8
import Derived.Test.YtnlkacmkakgaoaaPAx8
import Derived.Test.YtnlkacmkakgaoaaRatioSpec
namespace Go.Proofs.Ytnlkacmkakgaoaa.RatioSpec
open Go.RowKit Go.Proofs.Ytnlkacmkakgaoaa.PA Go.Proofs.YtnlkacmkakgaoaaW.PrintWords Go.Proofs.YtnlkacmkakgaoaaW.PrintLast Go.Proofs.YtnlkacmkakgaoaaW.PrintMore Go.Proofs.YtnlkacmkakgaoaaW.EvKit

theorem tm2 (x : Nat) : Int.tmod (x : Int) 2 = ((x % 2 : Nat) : Int) := by rw [Int.tmod_eq_emod_of_nonneg (by omega)]; rfl
theorem td2 (x : Nat) (h : x ≤ 9223372036854775807) : wrap64 (Int.tdiv (x : Int) 2) = ((x / 2 : Nat) : Int) := by
  rw [Int.tdiv_eq_ediv_of_nonneg (by omega), wrap64_of (by omega) (by omega)]; rfl

theorem div_l2 : ∀ (t a : Nat), t ≤ 4611686018427387904 → a * 2 ^ t ≤ 9223372036854775807 → Ev (fun k => hushref1_Divisor.l2 k (a : Int) (t : Int)) ((a * 2 ^ t : Nat) : Int) := by
  intro t
  induction t with
  | zero =>
    intro a _ _
    refine Ev.step (fun k => hushref1_Divisor.l2.eq_2 _ _ k) (Ev.neg (by omega) ?_)
    simpa using Ev.ret _
  | succ t ih =>
    intro a ht h
    have h1 : a ≤ a * 2 ^ t := Nat.le_mul_of_pos_right _ (Nat.two_pow_pos t)
    rw [Nat.pow_succ] at h
    have h2 : a * (2 ^ t * 2) = 2 * a * 2 ^ t := by rw [Nat.mul_comm (2 ^ t) 2, ← Nat.mul_assoc, Nat.mul_comm a 2]
    rw [h2] at h
    have h3 : 2 * a ≤ 2 * a * 2 ^ t := Nat.le_mul_of_pos_right _ (Nat.two_pow_pos t)
    have h4 := ih (2 * a) (by omega) h
    refine Ev.step (fun k => hushref1_Divisor.l2.eq_2 _ _ k) (Ev.pos (by omega) ?_)
    have e1 : wrap64 (2 * (a : Int)) = ((2 * a : Nat) : Int) := by rw [wrap64_of (by omega) (by omega)]; omega
    have e2 : wrap64 (((t + 1 : Nat) : Int) - 1) = ((t : Nat) : Int) := by rw [wrap64_of (by omega) (by omega)]; omega
    simp only [e1, e2]
    rw [Nat.pow_succ, h2]
    exact h4

theorem gcd_half {x y : Nat} (hx : x % 2 = 0) (hy : y % 2 = 1) : Nat.gcd (x / 2) y = Nat.gcd x y := by
  have h : x = 2 * (x / 2) := by omega
  have hc : Nat.Coprime 2 y := by
    unfold Nat.Coprime
    rw [Nat.gcd_rec, hy]
    decide
  rw [h]
  simp only [Nat.mul_div_cancel_left _ (show 0 < 2 by decide)]
  exact (Nat.Coprime.gcd_mul_left_cancel (x / 2) hc).symm

theorem div_l1 : ∀ (n x y t : Nat) {r : Int}, x + y ≤ n → 0 < x → 0 < y → (x % 2 = 1 ∨ y % 2 = 1) → x ≤ 9223372036854775807 → y ≤ 9223372036854775807 →
    Ev (fun k => hushref1_Divisor.l2 k ((Nat.gcd x y : Nat) : Int) (t : Int)) r → Ev (fun k => hushref1_Divisor.l1 k (x : Int) (y : Int) (t : Int)) r := by
  intro n
  induction n with
  | zero => intro x y t r h hx; omega
  | succ n ih =>
    intro x y t r h hx hy ho bx bY hr
    by_cases he : x = y
    · subst he
      rw [Nat.gcd_self] at hr
      exact Ev.step (fun k => hushref1_Divisor.l1.eq_2 _ _ _ k) (Ev.pos rfl hr)
    · refine Ev.step (fun k => hushref1_Divisor.l1.eq_2 _ _ _ k) (Ev.neg (by omega) ?_)
      rw [tm2, tm2, td2 x bx, td2 y bY]
      by_cases h0 : x % 2 = 0
      · refine Ev.pos (by omega) (ih (x / 2) y t (by omega) (by omega) hy (by omega) (by omega) bY ?_)
        rw [gcd_half h0 (by omega)]
        exact hr
      · refine Ev.neg (by omega) ?_
        by_cases h1 : y % 2 = 0
        · refine Ev.pos (by omega) (ih x (y / 2) t (by omega) hx (by omega) (by omega) bx (by omega) ?_)
          rw [Nat.gcd_comm, gcd_half h1 (by omega), Nat.gcd_comm]
          exact hr
        · refine Ev.neg (by omega) ?_
          by_cases h2 : x > y
          · refine Ev.pos (by omega) ?_
            have e : wrap64 ((x : Int) - (y : Int)) = ((x - y : Nat) : Int) := by rw [wrap64_of (by omega) (by omega)]; omega
            rw [e]
            refine ih (x - y) y t (by omega) (by omega) hy (by omega) (by omega) bY ?_
            rw [Nat.gcd_sub_self_left (by omega)]
            exact hr
          · refine Ev.neg (by omega) ?_
            have e : wrap64 ((y : Int) - (x : Int)) = ((y - x : Nat) : Int) := by rw [wrap64_of (by omega) (by omega)]; omega
            rw [e]
            refine ih x (y - x) t (by omega) hx (by omega) (by omega) bx (by omega) ?_
            rw [Nat.gcd_sub_self_right (by omega)]
            exact hr

theorem div_l0 : ∀ (n x y t : Nat) {r : Int}, x ≤ n → 0 < x → 0 < y → x ≤ 9223372036854775807 → y ≤ 9223372036854775807 → t + n ≤ 9223372036854775807 →
    Ev (fun k => hushref1_Divisor.l2 k ((Nat.gcd x y : Nat) : Int) (t : Int)) r → Ev (fun k => hushref1_Divisor.l0 k (x : Int) (y : Int) (t : Int)) r := by
  intro n
  induction n with
  | zero => intro x y t r h hx; omega
  | succ n ih =>
    intro x y t r h hx hy bx bY ht hr
    have hj : (x % 2 = 1 ∨ y % 2 = 1) → Ev (fun k => hushref1_Divisor.j1 k (x : Int) (y : Int) (t : Int)) r := fun ho =>
      Ev.step (fun k => hushref1_Divisor.j1.eq_2 _ _ _ k) (div_l1 (x + y) x y t (Nat.le_refl _) hx hy ho bx bY hr)
    refine Ev.step (fun k => hushref1_Divisor.l0.eq_2 _ _ _ k) ?_
    rw [tm2, tm2, td2 x bx, td2 y bY]
    by_cases h0 : x % 2 = 0
    · by_cases h1 : y % 2 = 0
      · have e : wrap64 ((t : Int) + 1) = ((t + 1 : Nat) : Int) := by rw [wrap64_of (by omega) (by omega)]; omega
        refine Ev.pos (by omega) (Ev.pos (by omega) ?_)
        rw [e]
        refine ih (x / 2) (y / 2) (t + 1) (by omega) (by omega) (by omega) (by omega) (by omega) (by omega) ?_
        have hg : Nat.gcd x y = 2 * Nat.gcd (x / 2) (y / 2) := by
          rw [← Nat.gcd_mul_left]
          congr 1 <;> omega
        have hle : Nat.gcd x y ≤ x := Nat.gcd_le_left y hx
        refine Ev.step (fun k => hushref1_Divisor.l2.eq_2 _ _ k) (Ev.pos (by omega) ?_)
        have e1 : wrap64 (2 * ((Nat.gcd (x / 2) (y / 2) : Nat) : Int)) = ((Nat.gcd x y : Nat) : Int) := by rw [wrap64_of (by omega) (by omega)]; omega
        have e2 : wrap64 (((t + 1 : Nat) : Int) - 1) = ((t : Nat) : Int) := by rw [wrap64_of (by omega) (by omega)]; omega
        simp only [e1, e2]
        exact hr
      · exact Ev.pos (by omega) (Ev.neg (by omega) (hj (by omega)))
    · exact Ev.neg (by omega) (hj (by omega))

theorem div_ev {u d : Int} (hu : 0 ≤ u) (hd : 1 ≤ d) (bu : u ≤ 9223372036854775807) (bd : d ≤ 9223372036854775807) : Ev (fun k => hushref1_Divisor.f k u d) ((Int.gcd u d : Nat) : Int) := by
  obtain ⟨x, rfl⟩ := Int.eq_ofNat_of_zero_le hu
  obtain ⟨y, rfl⟩ := Int.eq_ofNat_of_zero_le (show 0 ≤ d by omega)
  by_cases h0 : x = 0
  · subst h0
    refine Ev.pos rfl (Ev.eq (Ev.ret _) ?_)
    simp
  · refine Ev.neg (by omega) ?_
    show Ev (fun k => hushref1_Divisor.l0 k (x : Int) (y : Int) 0) ((Nat.gcd x y : Nat) : Int)
    refine div_l0 x x y 0 (Nat.le_refl _) (by omega) (by omega) (by omega) (by omega) (by omega) ?_
    refine Ev.eq (div_l2 0 (Nat.gcd x y) (by omega) ?_) (by simp)
    have := Nat.gcd_le_left y (show 0 < x by omega)
    simp
    omega

theorem rmake_ev {u d : Int} (hu : -9223372036854775808 ≤ u ∧ u ≤ 9223372036854775807) (hd : -9223372036854775808 ≤ d ∧ d ≤ 9223372036854775807) : Ev (fun k => hushref1_Make.f k u d) (makeS u d) := by
  have hj : ∀ b, b = decide (u < 0 ∨ d < 1) → Ev (fun k => hushref1_Make.j0 k u d b) (makeS u d) := fun b hb =>
    Ev.step (fun k => hushref1_Make.j0.eq_2 _ _ _ k) (make_j (fun h0 h1 => div_ev h0 h1 hu.2 hd.2) hu hd b hb)
  by_cases h : u < 0
  · exact Ev.pos h (hj true (by simp [h]))
  · exact Ev.neg h (hj _ (by simp [h]))
theorem rright_ev {u d : Int} (hu : -9223372036854775808 ≤ u ∧ u ≤ 9223372036854775807) (hd : -9223372036854775808 ≤ d ∧ d ≤ 9223372036854775807) : Ev (fun k => hushref1_Right.f k u d) (rightS u d) := right_g (fun h0 h1 => div_ev h0 h1 hu.2 hd.2)
end Go.Proofs.Ytnlkacmkakgaoaa.RatioSpec

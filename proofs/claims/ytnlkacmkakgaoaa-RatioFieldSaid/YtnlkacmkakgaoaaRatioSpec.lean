/- Fractions: what Make, Right, Times, Over, Plus, Minus, Order of the program and of the reference come to. Conditions: in the theorems. -/
import Derived.Test.YtnlkacmkakgaoaaPBx2
import Derived.Test.YtnlkacmkakgaoaaPBx3
import Derived.Test.YtnlkacmkakgaoaaPBx4
import Derived.Test.YtnlkacmkakgaoaaEvKit
namespace Go.Proofs.Ytnlkacmkakgaoaa.RatioSpec
set_option linter.unusedVariables false
open Go.RowKit Go.Proofs.Ytnlkacmkakgaoaa.PB Go.Proofs.YtnlkacmkakgaoaaW.PrintWords Go.Proofs.YtnlkacmkakgaoaaW.PrintLast Go.Proofs.YtnlkacmkakgaoaaW.PrintMore Go.Proofs.YtnlkacmkakgaoaaW.EvKit

theorem gcd_ev : ∀ (n : Nat) (a b : Nat), b ≤ n → Ev (fun k => ratio_gcd.f k (a : Int) (b : Int)) ((Nat.gcd a b : Nat) : Int) := by
  intro n
  induction n with
  | zero =>
    intro a b hb
    obtain rfl : b = 0 := by omega
    refine Ev.step (fun k => ratio_gcd.l0.eq_2 _ _ k) (Ev.pos rfl ?_)
    rw [Nat.gcd_zero_right]
    exact Ev.ret _
  | succ n ih =>
    intro a b hb
    by_cases h0 : b = 0
    · subst h0
      refine Ev.step (fun k => ratio_gcd.l0.eq_2 _ _ k) (Ev.pos rfl ?_)
      rw [Nat.gcd_zero_right]
      exact Ev.ret _
    · refine Ev.step (fun k => ratio_gcd.l0.eq_2 _ _ k) (Ev.neg (by omega) ?_)
      have hlt := Nat.mod_lt a (show b > 0 by omega)
      have h := ih b (a % b) (by omega)
      have e : Int.tmod (a : Int) (b : Int) = ((a % b : Nat) : Int) := by
        rw [Int.tmod_eq_emod_of_nonneg (by omega)]; rfl
      rw [e, Nat.gcd_comm a b, Nat.gcd_rec b a, Nat.gcd_comm]
      exact h

/-- Make. -/
def makeS (u d : Int) : Int × Int × Int :=
  if u < 0 ∨ d < 1 then (0, 0, 3) else
  if u / (Int.gcd u d : Nat) > 1073741824 ∨ d / (Int.gcd u d : Nat) > 1073741824 then (0, 0, 4) else (u / (Int.gcd u d : Nat), d / (Int.gcd u d : Nat), 0)
/-- Right. -/
def rightS (u d : Int) : Bool := decide (0 ≤ u ∧ 1 ≤ d ∧ u ≤ 1073741824 ∧ d ≤ 1073741824 ∧ Int.gcd u d = 1)

theorem gcd_pos {u d : Int} (h : 1 ≤ d) : 0 < Int.gcd u d := by
  rcases Nat.eq_zero_or_pos (Int.gcd u d) with h0 | h0
  · have := (Int.gcd_eq_zero_iff.1 h0).2
    omega
  · exact h0

theorem gcd_evI {u d : Int} (hu : 0 ≤ u) (hd : 0 ≤ d) : Ev (fun k => ratio_gcd.f k u d) ((Int.gcd u d : Nat) : Int) := by
  obtain ⟨a, rfl⟩ := Int.eq_ofNat_of_zero_le hu
  obtain ⟨b, rfl⟩ := Int.eq_ofNat_of_zero_le hd
  exact gcd_ev b a b (Nat.le_refl _)

theorem quot {u : Int} {g : Nat} (hu : 0 ≤ u) (hu2 : u ≤ 9223372036854775807) : wrap64 (Int.tdiv u (g : Int)) = u / (g : Int) := by
  rw [Int.tdiv_eq_ediv_of_nonneg hu]
  have h0 : 0 ≤ u / (g : Int) := Int.ediv_nonneg hu (by omega)
  have h1 : u / (g : Int) ≤ u := Int.ediv_le_self _ hu
  exact wrap64_of (by omega) (by omega)

theorem make_j {f : Nat → Option Int} {u d : Int} (hf : 0 ≤ u → 1 ≤ d → Ev f ((Int.gcd u d : Nat) : Int)) (hu : -9223372036854775808 ≤ u ∧ u ≤ 9223372036854775807) (hd : -9223372036854775808 ≤ d ∧ d ≤ 9223372036854775807) (b : Bool) (hb : b = decide (u < 0 ∨ d < 1)) :
    Ev (fun k => if b = true then (some (0, 0, 3)) else ((f k).bind fun t => (if t = 0 then (none) else (if (wrap64 (Int.tdiv u t)) > 1073741824 then (some (0, 0, 4)) else (if (wrap64 (Int.tdiv d t)) > 1073741824 then (some (0, 0, 4)) else (some (wrap64 (Int.tdiv u t), wrap64 (Int.tdiv d t), 0))))))) (makeS u d) := by
  subst hb
  unfold makeS
  by_cases hn : u < 0 ∨ d < 1
  · rw [if_pos hn]
    exact Ev.pos (by simpa using hn) (Ev.ret _)
  · rw [if_neg hn]
    have h1 : 0 ≤ u ∧ 1 ≤ d := by omega
    have hg := gcd_pos (u := u) h1.2
    refine Ev.neg (by simpa using hn) (Ev.bind (hf h1.1 h1.2) (Ev.neg (by omega) ?_))
    rw [quot h1.1 hu.2, quot (by omega) hd.2]
    by_cases c1 : u / (Int.gcd u d : Nat) > 1073741824
    · exact Ev.eq (r := (0, 0, 4)) (Ev.pos c1 (Ev.ret _)) (if_pos (Or.inl c1)).symm
    · by_cases c2 : d / (Int.gcd u d : Nat) > 1073741824
      · exact Ev.eq (r := (0, 0, 4)) (Ev.neg c1 (Ev.pos c2 (Ev.ret _))) (if_pos (Or.inr c2)).symm
      · exact Ev.eq (Ev.neg c1 (Ev.neg c2 (Ev.ret _))) (if_neg (by omega)).symm

theorem make_ev {u d : Int} (hu : -9223372036854775808 ≤ u ∧ u ≤ 9223372036854775807) (hd : -9223372036854775808 ≤ d ∧ d ≤ 9223372036854775807) : Ev (fun k => ratio_Make.f k u d) (makeS u d) := by
  have hj : ∀ b, b = decide (u < 0 ∨ d < 1) → Ev (fun k => ratio_Make.j0 k u d b) (makeS u d) := fun b hb =>
    Ev.step (fun k => ratio_Make.j0.eq_2 _ _ _ k) (make_j (fun h0 h1 => gcd_evI h0 (by omega)) hu hd b hb)
  by_cases h : u < 0
  · exact Ev.pos h (hj true (by simp [h]))
  · exact Ev.neg h (hj _ (by simp [h]))

theorem right_g {f : Nat → Option Int} {u d : Int} (hf : 0 ≤ u → 1 ≤ d → Ev f ((Int.gcd u d : Nat) : Int)) :
    Ev (fun k => if u ≥ 0 then (if d ≥ 1 then (if u ≤ 1073741824 then (if d ≤ 1073741824 then ((f k).bind fun t => (some (t == 1))) else (some false)) else (some false)) else (some false)) else (some false)) (rightS u d) := by
  unfold rightS
  by_cases h0 : u ≥ 0
  · by_cases h1 : d ≥ 1
    · by_cases h2 : u ≤ 1073741824
      · by_cases h3 : d ≤ 1073741824
        · refine Ev.pos h0 (Ev.pos h1 (Ev.pos h2 (Ev.pos h3 (Ev.bind (hf h0 h1) (Ev.eq (Ev.ret _) ?_)))))
          rw [Bool.eq_iff_iff]
          simp [h2, h3]
          omega
        · exact Ev.pos h0 (Ev.pos h1 (Ev.pos h2 (Ev.neg h3 (Ev.eq (Ev.ret _) (by symm; simp; omega)))))
      · exact Ev.pos h0 (Ev.pos h1 (Ev.neg h2 (Ev.eq (Ev.ret _) (by symm; simp; omega))))
    · exact Ev.pos h0 (Ev.neg h1 (Ev.eq (Ev.ret _) (by symm; simp; omega)))
  · exact Ev.neg h0 (Ev.eq (Ev.ret _) (by symm; simp; omega))
theorem right_ev (u d : Int) : Ev (fun k => ratio_Right.f k u d) (rightS u d) := right_g (fun h0 h1 => gcd_evI h0 (by omega))

theorem rightS_iff {u d : Int} : rightS u d = true ↔ 0 ≤ u ∧ 1 ≤ d ∧ u ≤ 1073741824 ∧ d ≤ 1073741824 ∧ Int.gcd u d = 1 := by simp [rightS]

theorem mul_bd {a b : Int} (ha : 0 ≤ a) (ha' : a ≤ 1073741824) (hb : 0 ≤ b) (hb' : b ≤ 1073741824) : 0 ≤ a * b ∧ a * b ≤ 1152921504606846976 :=
  ⟨Int.mul_nonneg ha hb, Int.le_trans (Int.mul_le_mul ha' hb' hb (by omega)) (by decide)⟩

/-- What is done with two. -/
def bothS (a0 a1 b0 b1 : Int) (r : Int × Int × Int) : Int × Int × Int := if rightS a0 a1 = true ∧ rightS b0 b1 = true then r else (0, 0, 2)
def timesS (a0 a1 b0 b1 : Int) := bothS a0 a1 b0 b1 (makeS (a0 * b0) (a1 * b1))
def overS (a0 a1 b0 b1 : Int) := bothS a0 a1 b0 b1 (makeS (a0 * b1) (a1 * b0))
def plusS (a0 a1 b0 b1 : Int) := bothS a0 a1 b0 b1 (makeS (a0 * b1 + b0 * a1) (a1 * b1))
def minusS (a0 a1 b0 b1 : Int) := bothS a0 a1 b0 b1 (makeS (a0 * b1 - b0 * a1) (a1 * b1))
def orderS (a0 a1 b0 b1 : Int) : Int × Int := if rightS a0 a1 = true ∧ rightS b0 b1 = true then (if a0 * b1 < b0 * a1 then -1 else if a0 * b1 > b0 * a1 then 1 else 0, 0) else (0, 2)

theorem both_ev {R : Nat → Int → Int → Option Bool} {m : Nat → Option (Int × Int × Int)} {a0 a1 b0 b1 : Int} {r : Int × Int × Int} (hR : ∀ u d, Ev (fun k => R k u d) (rightS u d))
    (hm : rightS a0 a1 = true → rightS b0 b1 = true → Ev m r) :
    Ev (fun k => (R k a0 a1).bind fun t => (if t = true then ((R k b0 b1).bind fun u => (if u = true then (m k) else (some (0, 0, 2)))) else (some (0, 0, 2)))) (bothS a0 a1 b0 b1 r) := by
  unfold bothS
  refine Ev.bind (hR a0 a1) ?_
  cases h : rightS a0 a1 with
  | false => exact Ev.neg (by simp) (Ev.eq (Ev.ret _) (by simp))
  | true =>
    refine Ev.pos rfl (Ev.bind (hR b0 b1) ?_)
    cases h' : rightS b0 b1 with
    | false => exact Ev.neg (by simp) (Ev.eq (Ev.ret _) (by simp))
    | true => exact Ev.pos rfl (Ev.eq (hm h h') (by simp))
end Go.Proofs.Ytnlkacmkakgaoaa.RatioSpec

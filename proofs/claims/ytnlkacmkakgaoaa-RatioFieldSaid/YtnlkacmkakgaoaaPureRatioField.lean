/- RatioField's pure statement: fractions are reckoned with as fractions are. Conditions: the numbers are int's. -/
import Derived.Test.YtnlkacmkakgaoaaFBx6d
import Derived.Test.YtnlkacmkakgaoaaRatioFour
import Derived.Test.YtnlkacmkakgaoaaRatioFieldMath
namespace Go.Proofs.Ytnlkacmkakgaoaa.Pure
set_option linter.unusedVariables false
set_option linter.unusedSimpArgs false
open Go.RowKit Go.Proofs.Ytnlkacmkakgaoaa.PB Go.Proofs.YtnlkacmkakgaoaaW.PrintWords Go.Proofs.YtnlkacmkakgaoaaW.PrintLast Go.Proofs.YtnlkacmkakgaoaaW.PrintMore Go.Proofs.YtnlkacmkakgaoaaW.EvKit Go.Proofs.Ytnlkacmkakgaoaa.RatioSpec

theorem times_F (a0 a1 b0 b1 : Int) : ratio_Times.F a0 a1 b0 b1 = some (timesS a0 a1 b0 b1) := (ratio_Times.F_is a0 a1 b0 b1).of_ev (times_ev a0 a1 b0 b1)
theorem over_F (a0 a1 b0 b1 : Int) : ratio_Over.F a0 a1 b0 b1 = some (overS a0 a1 b0 b1) := (ratio_Over.F_is a0 a1 b0 b1).of_ev (over_ev a0 a1 b0 b1)
theorem plus_F (a0 a1 b0 b1 : Int) : ratio_Plus.F a0 a1 b0 b1 = some (plusS a0 a1 b0 b1) := (ratio_Plus.F_is a0 a1 b0 b1).of_ev (plus_ev a0 a1 b0 b1)
theorem minus_F (a0 a1 b0 b1 : Int) : ratio_Minus.F a0 a1 b0 b1 = some (minusS a0 a1 b0 b1) := (ratio_Minus.F_is a0 a1 b0 b1).of_ev (minus_ev a0 a1 b0 b1)
theorem alive_F : hushlaw1_alive.F = some true := hushlaw1_alive.F_is.of_ev (Ev.of hushlaw1_alive.mono (k := 10) (by decide +kernel))

def twoT (plus : Bool) (a0 a1 b0 b1 : Int) : Int × Int × Bool := ((opS plus a0 a1 b0 b1).1, (opS plus a0 a1 b0 b1).2.1, (opS plus a0 a1 b0 b1).2.2 == 0)
theorem two_F (plus : Bool) (a0 a1 b0 b1 : Int) : hushlaw1_two.F plus a0 a1 b0 b1 = some (twoT plus a0 a1 b0 b1) := by
  rw [hushlaw1_two.F_eq]
  cases plus with
  | true =>
    simp (disch := omega) only [↓if_pos, ↓if_neg, if_true, if_false, decide_eq_true_eq, Bool.false_eq_true, Bool.not_true, Bool.not_false, Bool.not_eq_true, Bool.true_eq, eq_self, Option.bind_some, Option.bind_none, beq_iff_eq, bne_iff_ne, ne_eq, not_true_eq_false, not_false_eq_true, plus_F]
    rfl
  | false =>
    simp (disch := omega) only [↓if_pos, ↓if_neg, if_true, if_false, decide_eq_true_eq, Bool.false_eq_true, Bool.not_true, Bool.not_false, Bool.not_eq_true, Bool.true_eq, eq_self, Option.bind_some, Option.bind_none, beq_iff_eq, bne_iff_ne, ne_eq, not_true_eq_false, not_false_eq_true, times_F]
    rfl
theorem two_ok {plus : Bool} {a0 a1 b0 b1 p q : Int} (h : twoT plus a0 a1 b0 b1 = (p, q, true)) : opS plus a0 a1 b0 b1 = (p, q, 0) := by
  unfold twoT at h
  simp only [Prod.mk.injEq, beq_iff_eq] at h
  obtain ⟨h1, h2, h3⟩ := h
  generalize opS plus a0 a1 b0 b1 = r at h1 h2 h3
  obtain ⟨x, y, z⟩ := r
  simp only at h1 h2 h3
  rw [h1, h2, h3]
theorem two_same {plus plus' : Bool} {a0 a1 b0 b1 c0 c1 d0 d1 : Int} (h : opS plus a0 a1 b0 b1 = opS plus' c0 c1 d0 d1) : twoT plus a0 a1 b0 b1 = twoT plus' c0 c1 d0 d1 := by
  unfold twoT
  rw [h]

theorem j5_F (a0 a1 b0 b1 : Int) : hushlaw1_RatioField.J5 a0 a1 b0 b1 = some true := by
  rw [hushlaw1_RatioField.J5_eq, minus_F, Option.bind_some]
  generalize h : minusS a0 a1 b0 b1 = r
  obtain ⟨p, q, e⟩ := r
  by_cases he : e = 0
  · subst he
    have h2 := minus_back h
    rw [if_pos rfl, two_F, Option.bind_some]
    have h3 : twoT true p q b0 b1 = (a0, a1, true) := by
      unfold twoT opS
      simp only [if_true, h2]
      rfl
    rw [h3]
    simp
  · rw [if_neg he]

theorem j4_F (a0 a1 b0 b1 : Int) : hushlaw1_RatioField.J4 a0 a1 b0 b1 = some true := by
  rw [hushlaw1_RatioField.J4_eq, over_F, Option.bind_some]
  generalize h : overS a0 a1 b0 b1 = r
  obtain ⟨p, q, e⟩ := r
  by_cases he : e = 0
  · subst he
    have h2 := over_back h
    rw [if_pos rfl, two_F, Option.bind_some]
    have h3 : twoT false p q b0 b1 = (a0, a1, true) := by
      unfold twoT opS
      simp only [Bool.false_eq_true, if_false, h2]
      rfl
    rw [h3]
    simp [j5_F]
  · rw [if_neg he, j5_F]

theorem same_bool (a b : Int) : (!(a == a) || (!(b == b))) = false := by simp

theorem j3_F (a0 a1 b0 b1 c0 c1 : Int) : (hushlaw1_two.F true b0 b1 c0 c1).bind (fun bt149 => (hushlaw1_two.F false a0 a1 b0 b1).bind fun bt153 => (hushlaw1_two.F false a0 a1 c0 c1).bind fun bt157 => if bt149.2.2 = true then (if bt153.2.2 = true then hushlaw1_RatioField.J3 bt157.2.2 a0 a1 b0 b1 bt149.1 bt149.2.1 bt153.1 bt153.2.1 bt157.1 bt157.2.1 else hushlaw1_RatioField.J3 false a0 a1 b0 b1 bt149.1 bt149.2.1 bt153.1 bt153.2.1 bt157.1 bt157.2.1) else hushlaw1_RatioField.J3 false a0 a1 b0 b1 bt149.1 bt149.2.1 bt153.1 bt153.2.1 bt157.1 bt157.2.1) = some true := by
  rw [two_F, two_F, two_F]
  simp only [Option.bind_some]
  generalize h1 : twoT true b0 b1 c0 c1 = r1
  generalize h2 : twoT false a0 a1 b0 b1 = r2
  generalize h3 : twoT false a0 a1 c0 c1 = r3
  obtain ⟨s, t, e1⟩ := r1
  obtain ⟨p, q, e2⟩ := r2
  obtain ⟨p', q', e3⟩ := r3
  have no : ∀ s t p q p' q', hushlaw1_RatioField.J3 false a0 a1 b0 b1 s t p q p' q' = some true := fun s t p q p' q' => by
    rw [hushlaw1_RatioField.J3_eq, if_neg (by decide), j4_F]
  cases e1 with
  | false => simp [no]
  | true =>
    cases e2 with
    | false => simp [no]
    | true =>
      cases e3 with
      | false => simp [no]
      | true =>
        have e := op_distr (two_ok h1) (two_ok h2) (two_ok h3)
        have e' : twoT false a0 a1 s t = twoT true p q p' q' := two_same e
        rw [if_pos rfl, if_pos rfl, hushlaw1_RatioField.J3_eq, if_pos rfl, two_F, two_F, e']
        simp [j4_F]

theorem l0_F (l : List Bool) (hl : l.length ≤ 100) (a0 a1 b0 b1 c0 c1 : Int) (d : Nat) : ∀ i : Nat, i + d = l.length → hushlaw1_RatioField.L0 l (l.length : Int) (i : Int) a0 a1 b0 b1 c0 c1 = some true := by
  induction d with
  | zero =>
    intro i hi
    rw [hushlaw1_RatioField.L0_eq, if_neg (by omega)]
    exact j3_F a0 a1 b0 b1 c0 c1
  | succ d ih =>
    intro i hi
    have hw : wrap64 ((i : Int) + 1) = ((i + 1 : Nat) : Int) := by rw [wrap64_of (by omega) (by omega)]; omega
    have ih := ih (i + 1) (by omega)
    rw [hushlaw1_RatioField.L0_eq, if_pos (by omega), if_pos (by omega), if_pos (by omega)]
    generalize rdOf false l (i : Int) = plus
    have hc : twoT plus b0 b1 a0 a1 = twoT plus a0 a1 b0 b1 := two_same (op_comm plus b0 b1 a0 a1)
    rw [two_F, two_F, hc]
    simp only [Option.bind_some]
    generalize h1 : twoT plus a0 a1 b0 b1 = r1
    obtain ⟨p, q, e1⟩ := r1
    rw [if_neg (by simp), same_bool, hushlaw1_RatioField.J1_eq, if_neg (by decide), two_F]
    simp only [Option.bind_some]
    generalize h2 : twoT plus b0 b1 c0 c1 = r2
    obtain ⟨p', q', e2⟩ := r2
    have go : ∀ s t s' t', hushlaw1_RatioField.J2 plus l (l.length : Int) (i : Int) true a0 a1 b0 b1 c0 c1 s t s' t' = some true := fun s t s' t' => by
      rw [hushlaw1_RatioField.J2_eq, if_pos rfl, hw, ih]
    cases e1 with
    | false => simp [go]
    | true =>
      cases e2 with
      | false => simp [go]
      | true =>
        have e := two_same (op_assoc plus (two_ok h1) (two_ok h2))
        rw [if_pos rfl, hushlaw1_RatioField.J2_eq, if_neg (by simp), two_F, two_F, e, hw]
        simpa using ih

theorem RatioField : hushlaw1_RatioField.Pure := by
  intro x y z _ _ _
  refine (hushlaw1_RatioField.F_is x.f0 x.f1 y.f0 y.f1 z.f0 z.f1).rounds ?_
  rw [hushlaw1_RatioField.F_eq, alive_F]
  simp only [Option.bind_some, if_true]
  exact l0_F [false, true] (by decide) _ _ _ _ _ _ 2 0 rfl
end Go.Proofs.Ytnlkacmkakgaoaa.Pure

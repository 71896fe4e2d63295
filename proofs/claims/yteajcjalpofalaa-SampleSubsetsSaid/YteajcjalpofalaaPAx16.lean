
/- Functions of the program in Lean, by wip/xprint.py. Conditions: in each theorem. -/
import Derived.Test.YteajcjalpofalaaPAxs
import Derived.Test.YteajcjalpofalaaPAx0
import Derived.Test.YteajcjalpofalaaPAx10
namespace Go.Proofs.Yteajcjalpofalaa.PA
open Go.RowKit Go.Proofs.YteajcjalpofalaaW.PrintWords Go.Proofs.YteajcjalpofalaaW.PrintLast Go.Proofs.YteajcjalpofalaaW.PrintMore
attribute [local go_sem] max2_int min2_int max_two min_two max_three min_three max_four min_four   -- for this text's walks alone
set_option linter.unusedVariables false
set_option linter.unusedSimpArgs false

/-! ### hushref2_Same: function 7 -/
def hushref2_Same.l0 : Nat → List (S56) → List (S56) → Int → Int → Option (Bool)
 | 0, _, _, _, _ => none
 | k + 1, x0, x1, x12, x13 => if x13 < x12 then (if 0 ≤ x13 then (if x13 < (x0.length : Int) then (if x13 < (x1.length : Int) then (if ((rd_T56 x0 x13).f1) = ((rd_T56 x1 x13).f1) then ((hushref2_Compare.f k ((rd_T56 x0 x13).f0) ((rd_T56 x1 x13).f0)).bind fun t219 => (if t219 = 0 then (hushref2_Same.l0 k x0 x1 x12 (wrap64 (x13 + 1))) else (some false))) else (some false)) else (none)) else (none)) else (none)) else (some true)
def hushref2_Same.f (k : Nat) (l0 : List (S56)) (l1 : List (S56)) : Option (Bool) := if (l0.length : Int) = (l1.length : Int) then (hushref2_Same.l0 k l0 l1 (l0.length : Int) 0) else (some false)
theorem hushref2_Same.mono_l : ∀ k, (∀ y0 y1 y2 y3, LeO (hushref2_Same.l0 k y0 y1 y2 y3) (hushref2_Same.l0 (k + 1) y0 y1 y2 y3))
 | 0 => fun _ _ _ _ r h => by simp [hushref2_Same.l0] at h
 | k + 1 => by
  have ih0 := hushref2_Same.mono_l k
  ·
   intro y0 y1 y2 y3
   unfold hushref2_Same.l0
   repeat' first
   | (with_reducible exact ih0 _ _ _ _)
   | (with_reducible exact hushref2_Compare.mono _ _ _)
   | (with_reducible exact LeO.refl _)
   | (with_reducible refine LeO.ite ?_ ?_)
   | (with_reducible refine LeO.bind ?_ (fun _ => ?_))
theorem hushref2_Same.mono : ∀ a0 a1 k, LeO (hushref2_Same.f k a0 a1) (hushref2_Same.f (k + 1) a0 a1) := by
 intro a0 a1 k
 have ih0 := hushref2_Same.mono_l k
 unfold hushref2_Same.f
 repeat' first
   | (with_reducible exact ih0 _ _ _ _)
   | (with_reducible exact LeO.refl _)
   | (with_reducible refine LeO.ite ?_ ?_)
set_option maxHeartbeats 8000000 in
set_option maxRecDepth 100000 in
theorem hushref2_Same.calls (k : Nat) (A0 : Option Addr) (c0 : Nat) (l0 : List (S56)) (A1 : Option Addr) (c1 : Nat) (l1 : List (S56)) (r : Bool) (w : World) (hr0 : Kd.C k56 w A0 l0.length l0) (hc0 : l0.length ≤ c0) (hr1 : Kd.C k56 w A1 l1.length l1) (hc1 : l1.length ≤ c1) (h : hushref2_Same.f k l0 l1 = some r) :
  Calls Try.prog 7 #[.slice A0 l0.length c0, .slice A1 l1.length c1] w fun e w' => e = .returned (.bool r) ∧ Drawn0 w w' := by
 have HR0 := Aside0.mk hr0
 have HC0 := Aside0.mk hc0
 clear hr0 hc0
 have HR1 := Aside0.mk hr1
 have HC1 := Aside0.mk hc1
 clear hr1 hc1
 have H : (if (l0.length : Int) = (l1.length : Int) then (hushref2_Same.l0 k l0 l1 (l0.length : Int) 0) else (some false)) = some r := h
 clear h
 by_cases c3 : (l0.length : Int) = (l1.length : Int)
 ·
  rw [if_pos c3] at H
  have c3b0 : ((l0.length : Int) == (l1.length : Int)) = true := beq_iff_eq.mpr c3
  have c3b1 : ((l0.length : Int) != (l1.length : Int)) = false := bne_eq_false_iff_eq.mpr c3
  have c3b2 : (l0.length == l1.length) = true := by (simp at c3 ⊢; omega)
  clear c3
  have H' := Aside0.mk H
  clear H
  go_enter Try.func7, Try.ntmps7
  go_wp2
  repeat (go_quiet (fail); try go_wp2)
  go_loopg [13] k (fun kq v13 w' => ∃ (x13_1 : Int), v13 = .int .i64 x13_1 ∧ Aside0 (hushref2_Same.l0 kq l0 l1 (l0.length : Int) x13_1 = some r) ∧ Aside0 (kq ≤ k) ∧ Drawn0 w w')
  case atStart => exact ⟨(0), rfl, H', ⟨Nat.le_refl _⟩, by repeat (exact Drawn0.refl _)⟩
  case round =>
   clear H'
   try clear c3b0
   try clear c3b1
   try clear c3b2
   obtain ⟨x13_1, rfl, HA, HK1, ⟨m1, rfl⟩⟩ := hrel
   cases gk with
   | zero => exact absurd HA.out (by simp [hushref2_Same.l0])
   | succ k1 =>
    have H := HA.out
    clear HA
    simp only [hushref2_Same.l0] at H
    by_cases c4 : x13_1 < (l0.length : Int)
    ·
     rw [if_pos c4] at H
     have c4b0 : decide (x13_1 < (l0.length : Int)) = true := decide_eq_true c4
     clear c4
     by_cases c5 : 0 ≤ x13_1
     ·
      rw [if_pos c5] at H
      have c5b0 : decide (0 ≤ x13_1) = true := decide_eq_true c5
      clear c5
      by_cases c6 : x13_1 < (l0.length : Int)
      ·
       rw [if_pos c6] at H
       have c6b0 : decide (x13_1 < (l0.length : Int)) = true := decide_eq_true c6
       clear c6
       by_cases c7 : x13_1 < (l1.length : Int)
       ·
        rw [if_pos c7] at H
        have c7b0 : decide (x13_1 < (l1.length : Int)) = true := decide_eq_true c7
        clear c7
        by_cases c8 : ((rd_T56 l0 x13_1).f1) = ((rd_T56 l1 x13_1).f1)
        ·
         rw [if_pos c8] at H
         have c8b0 : (((rd_T56 l0 x13_1).f1) == ((rd_T56 l1 x13_1).f1)) = true := beq_iff_eq.mpr c8
         have c8b1 : (((rd_T56 l0 x13_1).f1) != ((rd_T56 l1 x13_1).f1)) = false := bne_eq_false_iff_eq.mpr c8
         clear c8
         obtain ⟨t219, A9, H⟩ := bnd_ H
         by_cases c10 : t219 = 0
         ·
          rw [if_pos c10] at H
          have c10b0 : (t219 == 0) = true := beq_iff_eq.mpr c10
          have c10b1 : (t219 != 0) = false := bne_eq_false_iff_eq.mpr c10
          clear c10
          have H' := Aside0.mk H
          clear H
          have p215 : 0 ≤ (x13_1 : Int) := of_decide_eq_true (by (with_reducible assumption))
          have q215 : x13_1 < (l0.length : Int) := of_decide_eq_true (by (with_reducible assumption))
          obtain ⟨ad215, A215_0, c215_0, e215, hx215_0, hx215_1, hl215_0, hi215_0⟩ := at_T56 HR0.out x13_1 p215 q215
          cases e215
          have HR215_0 := Aside0.mk hi215_0
          have HC215_0 := Aside0.mk hl215_0
          clear hi215_0 hl215_0
          replace p215 := eq_true p215
          replace q215 := eq_true q215
          have p216 : 0 ≤ (x13_1 : Int) := of_decide_eq_true (by (with_reducible assumption))
          have q216 : x13_1 < (l1.length : Int) := of_decide_eq_true (by (with_reducible assumption))
          obtain ⟨ad216, A216_0, c216_0, e216, hx216_0, hx216_1, hl216_0, hi216_0⟩ := at_T56 HR1.out x13_1 p216 q216
          cases e216
          have HR216_0 := Aside0.mk hi216_0
          have HC216_0 := Aside0.mk hl216_0
          clear hi216_0 hl216_0
          replace p216 := eq_true p216
          replace q216 := eq_true q216
          have p217 : 0 ≤ (x13_1 : Int) := of_decide_eq_true (by (with_reducible assumption))
          have q217 : x13_1 < (l0.length : Int) := of_decide_eq_true (by (with_reducible assumption))
          obtain ⟨ad217, A217_0, c217_0, e217, hx217_0, hx217_1, hl217_0, hi217_0⟩ := at_T56 HR0.out x13_1 p217 q217
          obtain rfl : ad215 = ad217 := (by injection e217)
          have HR217_0 := Aside0.mk hi217_0
          have HC217_0 := Aside0.mk hl217_0
          clear hi217_0 hl217_0
          replace p217 := eq_true p217
          replace q217 := eq_true q217
          have ea_ := Option.some.inj (hx215_0.symm.trans hx217_0)
          injection ea_ with ea_ en_ ec_
          subst ea_
          subst ec_
          clear en_
          have p218 : 0 ≤ (x13_1 : Int) := of_decide_eq_true (by (with_reducible assumption))
          have q218 : x13_1 < (l1.length : Int) := of_decide_eq_true (by (with_reducible assumption))
          obtain ⟨ad218, A218_0, c218_0, e218, hx218_0, hx218_1, hl218_0, hi218_0⟩ := at_T56 HR1.out x13_1 p218 q218
          obtain rfl : ad216 = ad218 := (by injection e218)
          have HR218_0 := Aside0.mk hi218_0
          have HC218_0 := Aside0.mk hl218_0
          clear hi218_0 hl218_0
          replace p218 := eq_true p218
          replace q218 := eq_true q218
          have ea_ := Option.some.inj (hx216_0.symm.trans hx218_0)
          injection ea_ with ea_ en_ ec_
          subst ea_
          subst ec_
          clear en_
          go_wp2_with (first | (go_at_call 23; (with_reducible refine (hushref2_Compare.calls k1 _ _ ((rd_T56 l0 x13_1).f0) _ _ ((rd_T56 l1 x13_1).f0) t219 _ ?side1 ?side2 ?side3 ?side4 A9.out).mono ?_); (case side1 => repeat (first | exact HR217_0.out | (with_reducible refine Kd.C_alloc ?_ _) | (with_reducible refine Kd.C_drewN ?_ _) | (with_reducible refine Kd.C_drew ?_))); (case side2 => exact HC217_0.out); (case side3 => repeat (first | exact HR218_0.out | (with_reducible refine Kd.C_alloc ?_ _) | (with_reducible refine Kd.C_drewN ?_ _) | (with_reducible refine Kd.C_drew ?_))); (case side4 => exact HC218_0.out); rintro e w' ⟨rfl, ⟨nd, rfl⟩⟩; (try first | exact ⟨rfl, _, World.drewN_drewN _ _ _⟩ | exact ⟨rfl, _, Eq.trans (World.drewN_drewN _ _ _) (congrArg (World.drewN _) (Nat.add_assoc _ _ _))⟩)))
          repeat (go_quiet ((go_at_call 23; (with_reducible refine (hushref2_Compare.calls k1 _ _ ((rd_T56 l0 x13_1).f0) _ _ ((rd_T56 l1 x13_1).f0) t219 _ ?side1 ?side2 ?side3 ?side4 A9.out).mono ?_); (case side1 => repeat (exact HR217_0.out)); (case side2 => exact HC217_0.out); (case side3 => repeat (exact HR218_0.out)); (case side4 => exact HC218_0.out); rintro e w' ⟨rfl, ⟨nd, rfl⟩⟩; (try exact ⟨rfl, _, Eq.trans (World.drewN_drewN _ _ _) (congrArg (World.drewN _) (Nat.add_assoc _ _ _))⟩))); try go_wp2_with (first | (go_at_call 23; (with_reducible refine (hushref2_Compare.calls k1 _ _ ((rd_T56 l0 x13_1).f0) _ _ ((rd_T56 l1 x13_1).f0) t219 _ ?side1 ?side2 ?side3 ?side4 A9.out).mono ?_); (case side1 => repeat (first | exact HR217_0.out | (with_reducible refine Kd.C_alloc ?_ _) | (with_reducible refine Kd.C_drewN ?_ _) | (with_reducible refine Kd.C_drew ?_))); (case side2 => exact HC217_0.out); (case side3 => repeat (first | exact HR218_0.out | (with_reducible refine Kd.C_alloc ?_ _) | (with_reducible refine Kd.C_drewN ?_ _) | (with_reducible refine Kd.C_drew ?_))); (case side4 => exact HC218_0.out); rintro e w' ⟨rfl, ⟨nd, rfl⟩⟩; (try first | exact ⟨rfl, _, World.drewN_drewN _ _ _⟩ | exact ⟨rfl, _, Eq.trans (World.drewN_drewN _ _ _) (congrArg (World.drewN _) (Nat.add_assoc _ _ _))⟩))))
          go_roundg k1
          case measure => have := HK1.out; omega
          case rel => exact ⟨(wrap64 (x13_1 + 1)), rfl, H', ⟨by have := HK1.out; omega⟩, by repeat (first | exact Drawn0.refl _ | apply Drawn0.step)⟩
         ·
          rw [if_neg c10] at H
          have c10b0 : (t219 == 0) = false := beq_eq_false_iff_ne.mpr c10
          have c10b1 : (t219 != 0) = true := bne_iff_ne.mpr c10
          obtain rfl := Option.some.inj H
          have p215 : 0 ≤ (x13_1 : Int) := of_decide_eq_true (by (with_reducible assumption))
          have q215 : x13_1 < (l0.length : Int) := of_decide_eq_true (by (with_reducible assumption))
          obtain ⟨ad215, A215_0, c215_0, e215, hx215_0, hx215_1, hl215_0, hi215_0⟩ := at_T56 HR0.out x13_1 p215 q215
          cases e215
          have HR215_0 := Aside0.mk hi215_0
          have HC215_0 := Aside0.mk hl215_0
          clear hi215_0 hl215_0
          replace p215 := eq_true p215
          replace q215 := eq_true q215
          have p216 : 0 ≤ (x13_1 : Int) := of_decide_eq_true (by (with_reducible assumption))
          have q216 : x13_1 < (l1.length : Int) := of_decide_eq_true (by (with_reducible assumption))
          obtain ⟨ad216, A216_0, c216_0, e216, hx216_0, hx216_1, hl216_0, hi216_0⟩ := at_T56 HR1.out x13_1 p216 q216
          cases e216
          have HR216_0 := Aside0.mk hi216_0
          have HC216_0 := Aside0.mk hl216_0
          clear hi216_0 hl216_0
          replace p216 := eq_true p216
          replace q216 := eq_true q216
          have p217 : 0 ≤ (x13_1 : Int) := of_decide_eq_true (by (with_reducible assumption))
          have q217 : x13_1 < (l0.length : Int) := of_decide_eq_true (by (with_reducible assumption))
          obtain ⟨ad217, A217_0, c217_0, e217, hx217_0, hx217_1, hl217_0, hi217_0⟩ := at_T56 HR0.out x13_1 p217 q217
          obtain rfl : ad215 = ad217 := (by injection e217)
          have HR217_0 := Aside0.mk hi217_0
          have HC217_0 := Aside0.mk hl217_0
          clear hi217_0 hl217_0
          replace p217 := eq_true p217
          replace q217 := eq_true q217
          have ea_ := Option.some.inj (hx215_0.symm.trans hx217_0)
          injection ea_ with ea_ en_ ec_
          subst ea_
          subst ec_
          clear en_
          have p218 : 0 ≤ (x13_1 : Int) := of_decide_eq_true (by (with_reducible assumption))
          have q218 : x13_1 < (l1.length : Int) := of_decide_eq_true (by (with_reducible assumption))
          obtain ⟨ad218, A218_0, c218_0, e218, hx218_0, hx218_1, hl218_0, hi218_0⟩ := at_T56 HR1.out x13_1 p218 q218
          obtain rfl : ad216 = ad218 := (by injection e218)
          have HR218_0 := Aside0.mk hi218_0
          have HC218_0 := Aside0.mk hl218_0
          clear hi218_0 hl218_0
          replace p218 := eq_true p218
          replace q218 := eq_true q218
          have ea_ := Option.some.inj (hx216_0.symm.trans hx218_0)
          injection ea_ with ea_ en_ ec_
          subst ea_
          subst ec_
          clear en_
          go_wp2_with (first | (go_at_call 23; (with_reducible refine (hushref2_Compare.calls k1 _ _ ((rd_T56 l0 x13_1).f0) _ _ ((rd_T56 l1 x13_1).f0) t219 _ ?side1 ?side2 ?side3 ?side4 A9.out).mono ?_); (case side1 => repeat (first | exact HR217_0.out | (with_reducible refine Kd.C_alloc ?_ _) | (with_reducible refine Kd.C_drewN ?_ _) | (with_reducible refine Kd.C_drew ?_))); (case side2 => exact HC217_0.out); (case side3 => repeat (first | exact HR218_0.out | (with_reducible refine Kd.C_alloc ?_ _) | (with_reducible refine Kd.C_drewN ?_ _) | (with_reducible refine Kd.C_drew ?_))); (case side4 => exact HC218_0.out); rintro e w' ⟨rfl, ⟨nd, rfl⟩⟩; (try first | exact ⟨rfl, _, World.drewN_drewN _ _ _⟩ | exact ⟨rfl, _, Eq.trans (World.drewN_drewN _ _ _) (congrArg (World.drewN _) (Nat.add_assoc _ _ _))⟩)))
          repeat (go_quiet ((go_at_call 23; (with_reducible refine (hushref2_Compare.calls k1 _ _ ((rd_T56 l0 x13_1).f0) _ _ ((rd_T56 l1 x13_1).f0) t219 _ ?side1 ?side2 ?side3 ?side4 A9.out).mono ?_); (case side1 => repeat (exact HR217_0.out)); (case side2 => exact HC217_0.out); (case side3 => repeat (exact HR218_0.out)); (case side4 => exact HC218_0.out); rintro e w' ⟨rfl, ⟨nd, rfl⟩⟩; (try exact ⟨rfl, _, Eq.trans (World.drewN_drewN _ _ _) (congrArg (World.drewN _) (Nat.add_assoc _ _ _))⟩))); try go_wp2_with (first | (go_at_call 23; (with_reducible refine (hushref2_Compare.calls k1 _ _ ((rd_T56 l0 x13_1).f0) _ _ ((rd_T56 l1 x13_1).f0) t219 _ ?side1 ?side2 ?side3 ?side4 A9.out).mono ?_); (case side1 => repeat (first | exact HR217_0.out | (with_reducible refine Kd.C_alloc ?_ _) | (with_reducible refine Kd.C_drewN ?_ _) | (with_reducible refine Kd.C_drew ?_))); (case side2 => exact HC217_0.out); (case side3 => repeat (first | exact HR218_0.out | (with_reducible refine Kd.C_alloc ?_ _) | (with_reducible refine Kd.C_drewN ?_ _) | (with_reducible refine Kd.C_drew ?_))); (case side4 => exact HC218_0.out); rintro e w' ⟨rfl, ⟨nd, rfl⟩⟩; (try first | exact ⟨rfl, _, World.drewN_drewN _ _ _⟩ | exact ⟨rfl, _, Eq.trans (World.drewN_drewN _ _ _) (congrArg (World.drewN _) (Nat.add_assoc _ _ _))⟩))))
          go_ret
          exact ⟨rfl, by repeat (first | exact Drawn0.refl _ | apply Drawn0.step)⟩
        ·
         rw [if_neg c8] at H
         have c8b0 : (((rd_T56 l0 x13_1).f1) == ((rd_T56 l1 x13_1).f1)) = false := beq_eq_false_iff_ne.mpr c8
         have c8b1 : (((rd_T56 l0 x13_1).f1) != ((rd_T56 l1 x13_1).f1)) = true := bne_iff_ne.mpr c8
         obtain rfl := Option.some.inj H
         have p215 : 0 ≤ (x13_1 : Int) := of_decide_eq_true (by (with_reducible assumption))
         have q215 : x13_1 < (l0.length : Int) := of_decide_eq_true (by (with_reducible assumption))
         obtain ⟨ad215, A215_0, c215_0, e215, hx215_0, hx215_1, hl215_0, hi215_0⟩ := at_T56 HR0.out x13_1 p215 q215
         cases e215
         have HR215_0 := Aside0.mk hi215_0
         have HC215_0 := Aside0.mk hl215_0
         clear hi215_0 hl215_0
         replace p215 := eq_true p215
         replace q215 := eq_true q215
         have p216 : 0 ≤ (x13_1 : Int) := of_decide_eq_true (by (with_reducible assumption))
         have q216 : x13_1 < (l1.length : Int) := of_decide_eq_true (by (with_reducible assumption))
         obtain ⟨ad216, A216_0, c216_0, e216, hx216_0, hx216_1, hl216_0, hi216_0⟩ := at_T56 HR1.out x13_1 p216 q216
         cases e216
         have HR216_0 := Aside0.mk hi216_0
         have HC216_0 := Aside0.mk hl216_0
         clear hi216_0 hl216_0
         replace p216 := eq_true p216
         replace q216 := eq_true q216
         go_wp2
         repeat (go_quiet (fail); try go_wp2)
         go_ret
         exact ⟨rfl, by repeat (first | exact Drawn0.refl _ | apply Drawn0.step)⟩
       ·
        rw [if_neg c7] at H
        exact absurd H (by simp)
      ·
       rw [if_neg c6] at H
       exact absurd H (by simp)
     ·
      rw [if_neg c5] at H
      exact absurd H (by simp)
    ·
     rw [if_neg c4] at H
     have c4b0 : decide (x13_1 < (l0.length : Int)) = false := decide_eq_false c4
     clear c4
     obtain rfl := Option.some.inj H
     go_wp2
     repeat (go_quiet (fail); try go_wp2)
     go_ret
     exact ⟨rfl, by repeat (first | exact Drawn0.refl _ | apply Drawn0.step)⟩
 ·
  rw [if_neg c3] at H
  have c3b0 : ((l0.length : Int) == (l1.length : Int)) = false := beq_eq_false_iff_ne.mpr c3
  have c3b1 : ((l0.length : Int) != (l1.length : Int)) = true := bne_iff_ne.mpr c3
  have c3b2 : (l0.length == l1.length) = false := by (simp at c3 ⊢; omega)
  obtain rfl := Option.some.inj H
  go_enter Try.func7, Try.ntmps7
  go_wp2
  repeat (go_quiet (fail); try go_wp2)
  go_ret
  exact ⟨rfl, by repeat (exact Drawn0.refl _)⟩

end Go.Proofs.Yteajcjalpofalaa.PA

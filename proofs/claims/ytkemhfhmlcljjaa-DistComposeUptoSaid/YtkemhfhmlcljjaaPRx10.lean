
/- Functions of the program in Lean, by wip/xprint.py. Conditions: in each theorem. -/
import Derived.Test.YtkemhfhmlcljjaaPRxs
import Derived.Test.YtkemhfhmlcljjaaPRx0
namespace Go.Proofs.Ytkemhfhmlcljjaa.PR
open Go.RowKit Go.Proofs.YtkemhfhmlcljjaaW.PrintWords Go.Proofs.YtkemhfhmlcljjaaW.PrintLast Go.Proofs.YtkemhfhmlcljjaaW.PrintMore
attribute [local go_sem] max2_int min2_int max_two min_two max_three min_three max_four min_four   -- for this text's walks alone
set_option linter.unusedVariables false
set_option linter.unusedSimpArgs false

/-! ### hushref1_Divisor: function 53 -/
mutual
def hushref1_Divisor.j1 : Nat → Int → Int → Int → Option (Int)
 | 0, _, _, _ => none
 | k + 1, x0, x1, x5 => hushref1_Divisor.l1 k x0 x1 x5
def hushref1_Divisor.l1 : Nat → Int → Int → Int → Option (Int)
 | 0, _, _, _ => none
 | k + 1, x0, x1, x5 => if x0 = x1 then (hushref1_Divisor.l2 k x0 x5) else (if (Int.tmod x0 2) = 0 then (hushref1_Divisor.l1 k (wrap64 (Int.tdiv x0 2)) x1 x5) else (if (Int.tmod x1 2) = 0 then (hushref1_Divisor.l1 k x0 (wrap64 (Int.tdiv x1 2)) x5) else (if x0 > x1 then (hushref1_Divisor.l1 k (wrap64 (x0 - x1)) x1 x5) else (hushref1_Divisor.l1 k x0 (wrap64 (x1 - x0)) x5))))
def hushref1_Divisor.l2 : Nat → Int → Int → Option (Int)
 | 0, _, _ => none
 | k + 1, x0, x5 => if x5 > 0 then (hushref1_Divisor.l2 k (wrap64 (2 * x0)) (wrap64 (x5 - 1))) else (some x0)
def hushref1_Divisor.l0 : Nat → Int → Int → Int → Option (Int)
 | 0, _, _, _ => none
 | k + 1, x0, x1, x5 => if (Int.tmod x0 2) = 0 then (if (Int.tmod x1 2) = 0 then (hushref1_Divisor.l0 k (wrap64 (Int.tdiv x0 2)) (wrap64 (Int.tdiv x1 2)) (wrap64 (x5 + 1))) else (hushref1_Divisor.j1 k x0 x1 x5)) else (hushref1_Divisor.j1 k x0 x1 x5)
end
def hushref1_Divisor.f (k : Nat) (a0 : Int) (a1 : Int) : Option (Int) := if a0 = 0 then (some a1) else (hushref1_Divisor.l0 k a0 a1 0)
theorem hushref1_Divisor.mono_l : ∀ k, (∀ y0 y1 y2, LeO (hushref1_Divisor.j1 k y0 y1 y2) (hushref1_Divisor.j1 (k + 1) y0 y1 y2)) ∧ (∀ y0 y1 y2, LeO (hushref1_Divisor.l1 k y0 y1 y2) (hushref1_Divisor.l1 (k + 1) y0 y1 y2)) ∧ (∀ y0 y1, LeO (hushref1_Divisor.l2 k y0 y1) (hushref1_Divisor.l2 (k + 1) y0 y1)) ∧ (∀ y0 y1 y2, LeO (hushref1_Divisor.l0 k y0 y1 y2) (hushref1_Divisor.l0 (k + 1) y0 y1 y2))
 | 0 => ⟨fun _ _ _ r h => by simp [hushref1_Divisor.j1] at h, fun _ _ _ r h => by simp [hushref1_Divisor.l1] at h, fun _ _ r h => by simp [hushref1_Divisor.l2] at h, fun _ _ _ r h => by simp [hushref1_Divisor.l0] at h⟩
 | k + 1 => by
  obtain ⟨ih0, ih1, ih2, ih3⟩ := hushref1_Divisor.mono_l k
  refine ⟨?_, ?_, ?_, ?_⟩
  ·
   intro y0 y1 y2
   unfold hushref1_Divisor.j1
   repeat' (with_reducible exact ih1 _ _ _)
  ·
   intro y0 y1 y2
   unfold hushref1_Divisor.l1
   repeat' first
   | (with_reducible exact ih1 _ _ _)
   | (with_reducible exact ih2 _ _)
   | (with_reducible refine LeO.ite ?_ ?_)
  ·
   intro y0 y1
   unfold hushref1_Divisor.l2
   repeat' first
   | (with_reducible exact ih2 _ _)
   | (with_reducible exact LeO.refl _)
   | (with_reducible refine LeO.ite ?_ ?_)
  ·
   intro y0 y1 y2
   unfold hushref1_Divisor.l0
   repeat' first
   | (with_reducible exact ih0 _ _ _)
   | (with_reducible exact ih3 _ _ _)
   | (with_reducible refine LeO.ite ?_ ?_)
theorem hushref1_Divisor.mono : ∀ a0 a1 k, LeO (hushref1_Divisor.f k a0 a1) (hushref1_Divisor.f (k + 1) a0 a1) := by
 intro a0 a1 k
 obtain ⟨ih0, ih1, ih2, ih3⟩ := hushref1_Divisor.mono_l k
 unfold hushref1_Divisor.f
 repeat' first
   | (with_reducible exact ih3 _ _ _)
   | (with_reducible exact LeO.refl _)
   | (with_reducible refine LeO.ite ?_ ?_)
set_option maxHeartbeats 8000000 in
set_option maxRecDepth 100000 in
theorem hushref1_Divisor.calls (k : Nat) (a0 : Int) (a1 : Int) (r : Int) (w : World) (h : hushref1_Divisor.f k a0 a1 = some r) :
  Calls Try.prog 53 #[.int .i64 a0, .int .i64 a1] w fun e w' => e = .returned (.int .i64 r) ∧ Drawn0 w w' := by
 have H : (if a0 = 0 then (some a1) else (hushref1_Divisor.l0 k a0 a1 0)) = some r := h
 clear h
 by_cases c3 : a0 = 0
 ·
  rw [if_pos c3] at H
  have c3b0 : (a0 == 0) = true := beq_iff_eq.mpr c3
  have c3b1 : (a0 != 0) = false := bne_eq_false_iff_eq.mpr c3
  clear c3
  obtain rfl := Option.some.inj H
  go_enter Try.func53, Try.ntmps53
  go_wp2
  go_ret
  exact ⟨rfl, by repeat (exact Drawn0.refl _)⟩
 ·
  rw [if_neg c3] at H
  have c3b0 : (a0 == 0) = false := beq_eq_false_iff_ne.mpr c3
  have c3b1 : (a0 != 0) = true := bne_iff_ne.mpr c3
  have HC4 := Aside0.mk H
  clear H
  go_enter Try.func53, Try.ntmps53
  go_upto_block 0 with (fail)
  go_cut [0, 1, 5] (fun v0 v1 v5 wc => ∃ (kq : Nat) (x0_3 : Int) (x1_3 : Int) (x5_3 : Int), v0 = .int .i64 x0_3 ∧ v1 = .int .i64 x1_3 ∧ v5 = .int .i64 x5_3 ∧ Aside0 (hushref1_Divisor.j1 kq x0_3 x1_3 x5_3 = some r) ∧ Aside0 (kq ≤ k) ∧ Drawn0 w wc)
  case first =>
   have H := HC4.out
   clear HC4
   have H' := Aside0.mk H
   clear H
   go_wp2
   go_loopg [0, 1, 5] k (fun kq v0 v1 v5 w' => ∃ (x0_1 : Int) (x1_1 : Int) (x5_1 : Int), v0 = .int .i64 x0_1 ∧ v1 = .int .i64 x1_1 ∧ v5 = .int .i64 x5_1 ∧ Aside0 (hushref1_Divisor.l0 kq x0_1 x1_1 x5_1 = some r) ∧ Aside0 (kq ≤ k) ∧ Drawn0 w w')
   case atStart => exact ⟨(a0), (a1), (0), rfl, rfl, rfl, H', ⟨Nat.le_refl _⟩, by repeat (exact Drawn0.refl _)⟩
   case round =>
    clear H'
    try clear c3
    try clear c3b0
    try clear c3b1
    obtain ⟨x0_1, x1_1, x5_1, rfl, rfl, rfl, HA, HK1, ⟨m1, rfl⟩⟩ := hrel
    cases gk with
    | zero => exact absurd HA.out (by simp [hushref1_Divisor.l0])
    | succ k1 =>
     have H := HA.out
     clear HA
     simp only [hushref1_Divisor.l0] at H
     by_cases c5 : (Int.tmod x0_1 2) = 0
     ·
      rw [if_pos c5] at H
      have c5b0 : ((Int.tmod x0_1 2) == 0) = true := beq_iff_eq.mpr c5
      have c5b1 : ((Int.tmod x0_1 2) != 0) = false := bne_eq_false_iff_eq.mpr c5
      clear c5
      by_cases c6 : (Int.tmod x1_1 2) = 0
      ·
       rw [if_pos c6] at H
       have c6b0 : ((Int.tmod x1_1 2) == 0) = true := beq_iff_eq.mpr c6
       have c6b1 : ((Int.tmod x1_1 2) != 0) = false := bne_eq_false_iff_eq.mpr c6
       clear c6
       have H' := Aside0.mk H
       clear H
       go_wp2
       go_roundg k1
       case measure => have := HK1.out; omega
       case rel => exact ⟨(wrap64 (Int.tdiv x0_1 2)), (wrap64 (Int.tdiv x1_1 2)), (wrap64 (x5_1 + 1)), rfl, rfl, rfl, H', ⟨by have := HK1.out; omega⟩, by repeat (first | exact Drawn0.refl _ | apply Drawn0.step)⟩
      ·
       rw [if_neg c6] at H
       have c6b0 : ((Int.tmod x1_1 2) == 0) = false := beq_eq_false_iff_ne.mpr c6
       have c6b1 : ((Int.tmod x1_1 2) != 0) = true := bne_iff_ne.mpr c6
       have H' := Aside0.mk H
       clear H
       go_wp2
       go_meet
       case rel => exact ⟨_, (x0_1), (x1_1), (x5_1), rfl, rfl, rfl, H', ⟨by have := HK1.out; omega⟩, by repeat (first | exact Drawn0.refl _ | apply Drawn0.step)⟩
     ·
      rw [if_neg c5] at H
      have c5b0 : ((Int.tmod x0_1 2) == 0) = false := beq_eq_false_iff_ne.mpr c5
      have c5b1 : ((Int.tmod x0_1 2) != 0) = true := bne_iff_ne.mpr c5
      have H' := Aside0.mk H
      clear H
      go_wp2
      go_meet
      case rel => exact ⟨_, (x0_1), (x1_1), (x5_1), rfl, rfl, rfl, H', ⟨by have := HK1.out; omega⟩, by repeat (first | exact Drawn0.refl _ | apply Drawn0.step)⟩
  case rest =>
   clear HC4
   try clear c3
   try clear c3b0
   try clear c3b1
   obtain ⟨kq, x0_3, x1_3, x5_3, rfl, rfl, rfl, HA, HJ3, ⟨mc3, rfl⟩⟩ := hcut
   cases kq with
   | zero => exact absurd HA.out (by simp [hushref1_Divisor.j1])
   | succ kj3 =>
    have H := HA.out
    clear HA
    simp only [hushref1_Divisor.j1] at H
    have H' := Aside0.mk H
    clear H
    go_wp2
    go_loopg [0, 1] kj3 (fun kq v0 v1 w' => ∃ (x0_2 : Int) (x1_2 : Int), v0 = .int .i64 x0_2 ∧ v1 = .int .i64 x1_2 ∧ Aside0 (hushref1_Divisor.l1 kq x0_2 x1_2 x5_3 = some r) ∧ Aside0 (kq ≤ kj3) ∧ Drawn0 w w')
    case atStart => exact ⟨(x0_3), (x1_3), rfl, rfl, H', ⟨Nat.le_refl _⟩, by repeat (first | exact Drawn0.refl _ | apply Drawn0.step)⟩
    case round =>
     clear H'
     obtain ⟨x0_2, x1_2, rfl, rfl, HA, HK2, ⟨m2, rfl⟩⟩ := hrel
     cases gk with
     | zero => exact absurd HA.out (by simp [hushref1_Divisor.l1])
     | succ k2 =>
      have H := HA.out
      clear HA
      simp only [hushref1_Divisor.l1] at H
      by_cases c7 : x0_2 = x1_2
      ·
       rw [if_pos c7] at H
       have c7b0 : (x0_2 == x1_2) = true := beq_iff_eq.mpr c7
       have c7b1 : (x0_2 != x1_2) = false := bne_eq_false_iff_eq.mpr c7
       clear c7
       have H' := Aside0.mk H
       clear H
       go_wp2
       go_loopg [0, 5] k2 (fun kq v0 v5 w' => ∃ (x0_3 : Int) (x5_3 : Int), v0 = .int .i64 x0_3 ∧ v5 = .int .i64 x5_3 ∧ Aside0 (hushref1_Divisor.l2 kq x0_3 x5_3 = some r) ∧ Aside0 (kq ≤ k2) ∧ Drawn0 w w')
       case atStart => exact ⟨(x0_2), (x5_3), rfl, rfl, H', ⟨Nat.le_refl _⟩, by repeat (first | exact Drawn0.refl _ | apply Drawn0.step)⟩
       case round =>
        clear H'
        try clear c7b0
        try clear c7b1
        obtain ⟨x0_3, x5_3, rfl, rfl, HA, HK3, ⟨m3, rfl⟩⟩ := hrel
        cases gk with
        | zero => exact absurd HA.out (by simp [hushref1_Divisor.l2])
        | succ k3 =>
         have H := HA.out
         clear HA
         simp only [hushref1_Divisor.l2] at H
         by_cases c8 : x5_3 > 0
         ·
          rw [if_pos c8] at H
          have c8b0 : decide (0 < x5_3) = true := decide_eq_true c8
          clear c8
          have H' := Aside0.mk H
          clear H
          go_wp2
          go_roundg k3
          case measure => have := HJ3.out; have := HK2.out; have := HK3.out; omega
          case rel => exact ⟨(wrap64 (2 * x0_3)), (wrap64 (x5_3 - 1)), rfl, rfl, H', ⟨by have := HJ3.out; have := HK2.out; have := HK3.out; omega⟩, by repeat (first | exact Drawn0.refl _ | apply Drawn0.step)⟩
         ·
          rw [if_neg c8] at H
          have c8b0 : decide (0 < x5_3) = false := decide_eq_false c8
          clear c8
          obtain rfl := Option.some.inj H
          go_wp2
          go_ret
          exact ⟨rfl, by repeat (first | exact Drawn0.refl _ | apply Drawn0.step)⟩
      ·
       rw [if_neg c7] at H
       have c7b0 : (x0_2 == x1_2) = false := beq_eq_false_iff_ne.mpr c7
       have c7b1 : (x0_2 != x1_2) = true := bne_iff_ne.mpr c7
       by_cases c9 : (Int.tmod x0_2 2) = 0
       ·
        rw [if_pos c9] at H
        have c9b0 : ((Int.tmod x0_2 2) == 0) = true := beq_iff_eq.mpr c9
        have c9b1 : ((Int.tmod x0_2 2) != 0) = false := bne_eq_false_iff_eq.mpr c9
        clear c9
        have H' := Aside0.mk H
        clear H
        go_wp2
        go_roundg k2
        case measure => have := HJ3.out; have := HK2.out; omega
        case rel => exact ⟨(wrap64 (Int.tdiv x0_2 2)), (x1_2), rfl, rfl, H', ⟨by have := HJ3.out; have := HK2.out; omega⟩, by repeat (first | exact Drawn0.refl _ | apply Drawn0.step)⟩
       ·
        rw [if_neg c9] at H
        have c9b0 : ((Int.tmod x0_2 2) == 0) = false := beq_eq_false_iff_ne.mpr c9
        have c9b1 : ((Int.tmod x0_2 2) != 0) = true := bne_iff_ne.mpr c9
        by_cases c10 : (Int.tmod x1_2 2) = 0
        ·
         rw [if_pos c10] at H
         have c10b0 : ((Int.tmod x1_2 2) == 0) = true := beq_iff_eq.mpr c10
         have c10b1 : ((Int.tmod x1_2 2) != 0) = false := bne_eq_false_iff_eq.mpr c10
         clear c10
         have H' := Aside0.mk H
         clear H
         go_wp2
         go_roundg k2
         case measure => have := HJ3.out; have := HK2.out; omega
         case rel => exact ⟨(x0_2), (wrap64 (Int.tdiv x1_2 2)), rfl, rfl, H', ⟨by have := HJ3.out; have := HK2.out; omega⟩, by repeat (first | exact Drawn0.refl _ | apply Drawn0.step)⟩
        ·
         rw [if_neg c10] at H
         have c10b0 : ((Int.tmod x1_2 2) == 0) = false := beq_eq_false_iff_ne.mpr c10
         have c10b1 : ((Int.tmod x1_2 2) != 0) = true := bne_iff_ne.mpr c10
         by_cases c11 : x0_2 > x1_2
         ·
          rw [if_pos c11] at H
          have c11b0 : decide (x1_2 < x0_2) = true := decide_eq_true c11
          clear c11
          have H' := Aside0.mk H
          clear H
          go_wp2
          go_roundg k2
          case measure => have := HJ3.out; have := HK2.out; omega
          case rel => exact ⟨(wrap64 (x0_2 - x1_2)), (x1_2), rfl, rfl, H', ⟨by have := HJ3.out; have := HK2.out; omega⟩, by repeat (first | exact Drawn0.refl _ | apply Drawn0.step)⟩
         ·
          rw [if_neg c11] at H
          have c11b0 : decide (x1_2 < x0_2) = false := decide_eq_false c11
          clear c11
          have H' := Aside0.mk H
          clear H
          go_wp2
          go_roundg k2
          case measure => have := HJ3.out; have := HK2.out; omega
          case rel => exact ⟨(x0_2), (wrap64 (x1_2 - x0_2)), rfl, rfl, H', ⟨by have := HJ3.out; have := HK2.out; omega⟩, by repeat (first | exact Drawn0.refl _ | apply Drawn0.step)⟩

end Go.Proofs.Ytkemhfhmlcljjaa.PR

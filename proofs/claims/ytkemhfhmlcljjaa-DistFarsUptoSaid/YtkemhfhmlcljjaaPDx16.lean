/- Functions of the translated program as Lean functions, and what their calls come to: written by this session's own program (wip/xprint.py) over the kit's print. Conditions stand in each theorem. -/
import Derived.Test.YtkemhfhmlcljjaaPDx0
namespace Go.Proofs.Ytkemhfhmlcljjaa.PD
open Go.RowKit Go.Proofs.YtkemhfhmlcljjaaW.PrintWords Go.Proofs.YtkemhfhmlcljjaaW.PrintLast Go.Proofs.YtkemhfhmlcljjaaW.PrintMore
attribute [local go_sem] max2_int min2_int max_two min_two max_three min_three max_four min_four   -- for this text's walks alone
set_option linter.unusedVariables false
set_option linter.unusedSimpArgs false

/-! ### hushref2_More: function 60 -/
mutual
def hushref2_More.l0 : Nat → Int → Int → Int → Int → Int → Option (Bool)
  | 0, _, _, _, _, _ => none
  | k + 1, x0, x1, x2, x3, x9 => if x9 < 124 then (if (wrap64 (2 * x0)) ≥ x1 then (hushref2_More.j1 k (wrap64 ((wrap64 (2 * x0)) - x1)) x1 (wrap64 (2 * x2)) x3 x9 1 0) else (hushref2_More.j1 k (wrap64 (2 * x0)) x1 (wrap64 (2 * x2)) x3 x9 0 0)) else (some false)
def hushref2_More.j1 : Nat → Int → Int → Int → Int → Int → Int → Int → Option (Bool)
  | 0, _, _, _, _, _, _, _ => none
  | k + 1, x0, x1, x2, x3, x9, x10, x11 => if x2 ≥ x3 then (if x10 = 1 then (hushref2_More.l0 k x0 x1 (wrap64 (x2 - x3)) x3 (wrap64 (x9 + 1))) else (some (decide (x10 > 1)))) else (if x10 = x11 then (hushref2_More.l0 k x0 x1 x2 x3 (wrap64 (x9 + 1))) else (some (decide (x10 > x11))))
end
def hushref2_More.f (k : Nat) (a0 : Int) (a1 : Int) (a2 : Int) (a3 : Int) : Option (Bool) := if a1 = 0 then (none) else (if a3 = 0 then (none) else (if (wrap64 (Int.tdiv a0 a1)) = (wrap64 (Int.tdiv a2 a3)) then (hushref2_More.l0 k (Int.tmod a0 a1) a1 (Int.tmod a2 a3) a3 0) else (some (decide ((wrap64 (Int.tdiv a0 a1)) > (wrap64 (Int.tdiv a2 a3)))))))
theorem hushref2_More.mono_l : ∀ k, (∀ y0 y1 y2 y3 y4, LeO (hushref2_More.l0 k y0 y1 y2 y3 y4) (hushref2_More.l0 (k + 1) y0 y1 y2 y3 y4)) ∧ (∀ y0 y1 y2 y3 y4 y5 y6, LeO (hushref2_More.j1 k y0 y1 y2 y3 y4 y5 y6) (hushref2_More.j1 (k + 1) y0 y1 y2 y3 y4 y5 y6))
  | 0 => ⟨fun _ _ _ _ _ r h => by simp [hushref2_More.l0] at h, fun _ _ _ _ _ _ _ r h => by simp [hushref2_More.j1] at h⟩
  | k + 1 => by
    obtain ⟨ih0, ih1⟩ := hushref2_More.mono_l k
    refine ⟨?_, ?_⟩
    · intro y0 y1 y2 y3 y4
      unfold hushref2_More.l0
      repeat' first
      | (with_reducible exact ih0 _ _ _ _ _)
      | (with_reducible exact ih1 _ _ _ _ _ _ _)
      | (with_reducible exact LeO.refl _)
      | (with_reducible exact LeO.none _)
      | (with_reducible refine LeO.ite ?_ ?_)
      | (with_reducible refine LeO.bind ?_ (fun _ => ?_))
      | exact ih0 _ _ _ _ _
      | exact ih1 _ _ _ _ _ _ _
      | exact LeO.none _
      | refine LeO.ite ?_ ?_
      | refine LeO.bind ?_ (fun _ => ?_)
    · intro y0 y1 y2 y3 y4 y5 y6
      unfold hushref2_More.j1
      repeat' first
      | (with_reducible exact ih0 _ _ _ _ _)
      | (with_reducible exact ih1 _ _ _ _ _ _ _)
      | (with_reducible exact LeO.refl _)
      | (with_reducible exact LeO.none _)
      | (with_reducible refine LeO.ite ?_ ?_)
      | (with_reducible refine LeO.bind ?_ (fun _ => ?_))
      | exact ih0 _ _ _ _ _
      | exact ih1 _ _ _ _ _ _ _
      | exact LeO.none _
      | refine LeO.ite ?_ ?_
      | refine LeO.bind ?_ (fun _ => ?_)
theorem hushref2_More.mono : ∀ a0 a1 a2 a3 k, LeO (hushref2_More.f k a0 a1 a2 a3) (hushref2_More.f (k + 1) a0 a1 a2 a3) := by
  intro a0 a1 a2 a3 k
  obtain ⟨ih0, ih1⟩ := hushref2_More.mono_l k
  unfold hushref2_More.f
  repeat' first
      | (with_reducible exact ih0 _ _ _ _ _)
      | (with_reducible exact ih1 _ _ _ _ _ _ _)
      | (with_reducible exact LeO.refl _)
      | (with_reducible exact LeO.none _)
      | (with_reducible refine LeO.ite ?_ ?_)
      | (with_reducible refine LeO.bind ?_ (fun _ => ?_))
      | exact ih0 _ _ _ _ _
      | exact ih1 _ _ _ _ _ _ _
      | exact LeO.none _
      | refine LeO.ite ?_ ?_
      | refine LeO.bind ?_ (fun _ => ?_)
set_option maxHeartbeats 8000000 in
set_option maxRecDepth 100000 in
theorem hushref2_More.calls (k : Nat) (a0 : Int) (a1 : Int) (a2 : Int) (a3 : Int) (r : Bool) (w : World) (h : hushref2_More.f k a0 a1 a2 a3 = some r) :
    Calls Try.prog 60 #[.int .i64 a0, .int .i64 a1, .int .i64 a2, .int .i64 a3] w fun e w' => e = .returned (.bool r) ∧ Drawn0 w w' := by
  have H : (if a1 = 0 then (none) else (if a3 = 0 then (none) else (if (wrap64 (Int.tdiv a0 a1)) = (wrap64 (Int.tdiv a2 a3)) then (hushref2_More.l0 k (Int.tmod a0 a1) a1 (Int.tmod a2 a3) a3 0) else (some (decide ((wrap64 (Int.tdiv a0 a1)) > (wrap64 (Int.tdiv a2 a3)))))))) = some r := h
  clear h
  by_cases c5 : a1 = 0
  · rw [if_pos c5] at H
    exact absurd H (by simp)
  · rw [if_neg c5] at H
    have c5b0 : (a1 == 0) = false := beq_eq_false_iff_ne.mpr c5
    have c5b1 : (a1 != 0) = true := bne_iff_ne.mpr c5
    by_cases c6 : a3 = 0
    · rw [if_pos c6] at H
      exact absurd H (by simp)
    · rw [if_neg c6] at H
      have c6b0 : (a3 == 0) = false := beq_eq_false_iff_ne.mpr c6
      have c6b1 : (a3 != 0) = true := bne_iff_ne.mpr c6
      by_cases c7 : (wrap64 (Int.tdiv a0 a1)) = (wrap64 (Int.tdiv a2 a3))
      · rw [if_pos c7] at H
        have c7b0 : ((wrap64 (Int.tdiv a0 a1)) == (wrap64 (Int.tdiv a2 a3))) = true := beq_iff_eq.mpr c7
        have c7b1 : ((wrap64 (Int.tdiv a0 a1)) != (wrap64 (Int.tdiv a2 a3))) = false := bne_eq_false_iff_eq.mpr c7
        clear c7
        have H' := Aside0.mk H
        clear H
        go_enter Try.func60, Try.ntmps60
        go_wp2
        repeat (go_quiet (fail); try go_wp2)
        go_loopg [0, 2, 9] k (fun kq v0 v2 v9 w' => ∃ (x0_1 : Int) (x2_1 : Int) (x9_1 : Int), v0 = .int .i64 x0_1 ∧ v2 = .int .i64 x2_1 ∧ v9 = .int .i64 x9_1 ∧ Aside0 (hushref2_More.l0 kq x0_1 a1 x2_1 a3 x9_1 = some r) ∧ Aside0 (kq ≤ k) ∧ Drawn0 w w')
        case atStart => exact ⟨(Int.tmod a0 a1), (Int.tmod a2 a3), (0), (by first | rfl | (simp; done) | (simp [*]; done)), (by first | rfl | (simp; done) | (simp [*]; done)), (by first | rfl | (simp; done) | (simp [*]; done)), H', ⟨Nat.le_refl _⟩, by repeat (first | exact Drawn0.refl _ | apply Drawn0.step)⟩
        case round =>
          clear H'
          try clear p2
          try clear c5
          try clear c5b0
          try clear c5b1
          try clear c6
          try clear c6b0
          try clear c6b1
          try clear p6
          try clear c7
          try clear c7b0
          try clear c7b1
          obtain ⟨x0_1, x2_1, x9_1, rfl, rfl, rfl, HA, HK1, ⟨m1, rfl⟩⟩ := hrel
          cases gk with
          | zero => exact absurd HA.out (by simp [hushref2_More.l0])
          | succ k1 =>
            have H := HA.out
            clear HA
            simp only [hushref2_More.l0] at H
            by_cases c8 : x9_1 < 124
            · rw [if_pos c8] at H
              have c8b0 : decide (x9_1 < 124) = true := decide_eq_true c8
              clear c8
              have HC9 := Aside0.mk H
              clear H
              go_upto_if 42 with (fail)
              repeat (go_quiet (fail); go_upto_if 42 with (fail))
              go_cut [0, 10] (fun v0 v10 wc => ∃ (kq : Nat) (x0_8 : Int) (x10_8 : Int), v0 = .int .i64 x0_8 ∧ v10 = .int .i64 x10_8 ∧ Aside0 (hushref2_More.j1 kq x0_8 a1 (wrap64 (2 * x2_1)) a3 x9_1 x10_8 0 = some r) ∧ Aside0 (kq ≤ k1) ∧ Drawn0 w wc)
              case first =>
                have H := HC9.out
                clear HC9
                by_cases c10 : (wrap64 (2 * x0_1)) ≥ a1
                · rw [if_pos c10] at H
                  have c10b0 : decide (a1 ≤ (wrap64 (2 * x0_1))) = true := decide_eq_true c10
                  clear c10
                  (first | rw [c10b0] | (simp only [i64_w, i32_w]; rw [c10b0]) | skip)
                  have H' := Aside0.mk H
                  clear H
                  go_wp2
                  repeat (go_quiet (fail); try go_wp2)
                  go_meet
                  case rel => exact ⟨_, (wrap64 ((wrap64 (2 * x0_1)) - a1)), (1), (by first | rfl | (simp; done) | (simp [*]; done)), (by first | rfl | (simp; done) | (simp [*]; done)), H', ⟨by have := HK1.out; first | omega | exact Nat.le_refl _⟩, by repeat (first | exact Drawn0.refl _ | apply Drawn0.step)⟩
                · rw [if_neg c10] at H
                  have c10b0 : decide (a1 ≤ (wrap64 (2 * x0_1))) = false := decide_eq_false c10
                  clear c10
                  (first | rw [c10b0] | (simp only [i64_w, i32_w]; rw [c10b0]) | skip)
                  have H' := Aside0.mk H
                  clear H
                  go_wp2
                  repeat (go_quiet (fail); try go_wp2)
                  go_meet
                  case rel => exact ⟨_, (wrap64 (2 * x0_1)), (0), (by first | rfl | (simp; done) | (simp [*]; done)), (by first | rfl | (simp; done) | (simp [*]; done)), H', ⟨by have := HK1.out; first | omega | exact Nat.le_refl _⟩, by repeat (first | exact Drawn0.refl _ | apply Drawn0.step)⟩
              case rest =>
                clear HC9
                try clear c1
                try clear p2
                try clear c5
                try clear c5b0
                try clear c5b1
                try clear c6
                try clear c6b0
                try clear c6b1
                try clear p6
                try clear c7
                try clear c7b0
                try clear c7b1
                try clear c8
                try clear c8b0
                try clear c10
                try clear c10b0
                try clear p2
                try clear p6
                obtain ⟨kq, x0_8, x10_8, rfl, rfl, HA, HJ8, ⟨mc8, rfl⟩⟩ := hcut
                cases kq with
                | zero => exact absurd HA.out (by simp [hushref2_More.j1])
                | succ kj8 =>
                  have H := HA.out
                  clear HA
                  simp only [hushref2_More.j1] at H
                  by_cases c11 : (wrap64 (2 * x2_1)) ≥ a3
                  · rw [if_pos c11] at H
                    have c11b0 : decide (a3 ≤ (wrap64 (2 * x2_1))) = true := decide_eq_true c11
                    clear c11
                    by_cases c12 : x10_8 = 1
                    · rw [if_pos c12] at H
                      have c12b0 : (x10_8 == 1) = true := beq_iff_eq.mpr c12
                      have c12b1 : (x10_8 != 1) = false := bne_eq_false_iff_eq.mpr c12
                      clear c12
                      have H' := Aside0.mk H
                      clear H
                      go_wp2
                      repeat (go_quiet (fail); try go_wp2)
                      go_roundg kj8
                      case measure => have := HK1.out; have := HJ8.out; omega
                      case rel => exact ⟨(x0_8), (wrap64 ((wrap64 (2 * x2_1)) - a3)), (wrap64 (x9_1 + 1)), (by first | rfl | (simp; done) | (simp [*]; done)), (by first | rfl | (simp; done) | (simp [*]; done)), (by first | rfl | (simp; done) | (simp [*]; done)), H', ⟨by have := HK1.out; have := HJ8.out; omega⟩, by repeat (first | exact Drawn0.refl _ | apply Drawn0.step)⟩
                    · rw [if_neg c12] at H
                      have c12b0 : (x10_8 == 1) = false := beq_eq_false_iff_ne.mpr c12
                      have c12b1 : (x10_8 != 1) = true := bne_iff_ne.mpr c12
                      obtain rfl := Option.some.inj H
                      go_wp2
                      repeat (go_quiet (fail); try go_wp2)
                      go_ret
                      exact ⟨by first | rfl | (simp; done) | (simp [*]; done), by repeat (first | exact Drawn0.refl _ | apply Drawn0.step)⟩
                  · rw [if_neg c11] at H
                    have c11b0 : decide (a3 ≤ (wrap64 (2 * x2_1))) = false := decide_eq_false c11
                    clear c11
                    by_cases c13 : x10_8 = 0
                    · rw [if_pos c13] at H
                      have c13b0 : (x10_8 == 0) = true := beq_iff_eq.mpr c13
                      have c13b1 : (x10_8 != 0) = false := bne_eq_false_iff_eq.mpr c13
                      clear c13
                      have H' := Aside0.mk H
                      clear H
                      go_wp2
                      repeat (go_quiet (fail); try go_wp2)
                      go_roundg kj8
                      case measure => have := HK1.out; have := HJ8.out; omega
                      case rel => exact ⟨(x0_8), ((wrap64 (2 * x2_1))), (wrap64 (x9_1 + 1)), (by first | rfl | (simp; done) | (simp [*]; done)), (by first | rfl | (simp; done) | (simp [*]; done)), (by first | rfl | (simp; done) | (simp [*]; done)), H', ⟨by have := HK1.out; have := HJ8.out; omega⟩, by repeat (first | exact Drawn0.refl _ | apply Drawn0.step)⟩
                    · rw [if_neg c13] at H
                      have c13b0 : (x10_8 == 0) = false := beq_eq_false_iff_ne.mpr c13
                      have c13b1 : (x10_8 != 0) = true := bne_iff_ne.mpr c13
                      obtain rfl := Option.some.inj H
                      go_wp2
                      repeat (go_quiet (fail); try go_wp2)
                      go_ret
                      exact ⟨by first | rfl | (simp; done) | (simp [*]; done), by repeat (first | exact Drawn0.refl _ | apply Drawn0.step)⟩
            · rw [if_neg c8] at H
              have c8b0 : decide (x9_1 < 124) = false := decide_eq_false c8
              clear c8
              obtain rfl := Option.some.inj H
              go_wp2
              repeat (go_quiet (fail); try go_wp2)
              go_ret
              exact ⟨by first | rfl | (simp; done) | (simp [*]; done), by repeat (first | exact Drawn0.refl _ | apply Drawn0.step)⟩
      · rw [if_neg c7] at H
        have c7b0 : ((wrap64 (Int.tdiv a0 a1)) == (wrap64 (Int.tdiv a2 a3))) = false := beq_eq_false_iff_ne.mpr c7
        have c7b1 : ((wrap64 (Int.tdiv a0 a1)) != (wrap64 (Int.tdiv a2 a3))) = true := bne_iff_ne.mpr c7
        obtain rfl := Option.some.inj H
        go_enter Try.func60, Try.ntmps60
        go_wp2
        repeat (go_quiet (fail); try go_wp2)
        go_ret
        exact ⟨by first | rfl | (simp; done) | (simp [*]; done), by repeat (first | exact Drawn0.refl _ | apply Drawn0.step)⟩

end Go.Proofs.Ytkemhfhmlcljjaa.PD

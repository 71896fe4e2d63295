/- Functions of the translated program as Lean functions, and what their calls come to: written by this session's own program (wip/xprint.py) over the kit's print. Conditions stand in each theorem. -/
import Derived.Test.YtcggbpefeahkiaaPAx0
import Derived.Test.YtcggbpefeahkiaaPAx2
import Derived.Test.YtcggbpefeahkiaaPAx3
namespace Go.Proofs.Ytcggbpefeahkiaa.PA
open Go.RowKit Go.Proofs.YtcggbpefeahkiaaW.PrintWords Go.Proofs.YtcggbpefeahkiaaW.PrintLast Go.Proofs.YtcggbpefeahkiaaW.PrintMore
attribute [local go_sem] max2_int min2_int max_two min_two max_three min_three max_four min_four   -- for this text's walks alone
set_option linter.unusedVariables false
set_option linter.unusedSimpArgs false

/-! ### hushlaw3_DiceEven: function 3 -/
mutual
def hushlaw3_DiceEven.j0 : Nat → Int → Int → Bool → Option (Bool)
  | 0, _, _, _ => none
  | k + 1, x0, x1, x29 => if x29 = true then (some true) else (hushlaw3_DiceEven.l0 k x0 x1 1 0)
def hushlaw3_DiceEven.l0 : Nat → Int → Int → Int → Int → Option (Bool)
  | 0, _, _, _, _ => none
  | k + 1, x0, x1, x5, x6 => if x6 < x1 then (hushlaw3_DiceEven.l0 k x0 x1 (wrap64 (2 * x5)) (wrap64 (x6 + 1))) else (if 0 ≤ x0 then (if (x0 : Int).toNat ≤ 35184372088832 then (hushlaw3_DiceEven.l1 k x0 x1 x5 (List.replicate (x0 : Int).toNat 0) 0 0) else (none)) else (none))
def hushlaw3_DiceEven.l1 : Nat → Int → Int → Int → List Int → Int → Int → Option (Bool)
  | 0, _, _, _, _, _, _ => none
  | k + 1, x0, x1, x5, x7, x8, x9 => if x9 < x5 then ((hushlaw3_digits.f k x9 x1).bind fun t129 => ((dice_Evens.f k x0 t129 1).bind fun bt132 => (if bt132.2 = 0 then (hushlaw3_DiceEven.j3 k x0 x1 x5 x7 x8 x9 bt132.1 (decide ((bt132.1.length : Int) > 1))) else (hushlaw3_DiceEven.j3 k x0 x1 x5 x7 x8 x9 bt132.1 true)))) else (hushlaw3_DiceEven.l2 k x0 x5 x8 x7 (x7.length : Int) 0)
def hushlaw3_DiceEven.j3 : Nat → Int → Int → Int → List Int → Int → Int → List (S30) → Bool → Option (Bool)
  | 0, _, _, _, _, _, _, _, _ => none
  | k + 1, x0, x1, x5, x7, x8, x9, x10, x58 => if x58 = true then (some false) else (if (x10.length : Int) = 0 then (hushlaw3_DiceEven.l1 k x0 x1 x5 x7 x8 (wrap64 (x9 + 1))) else (if 0 < (x10.length : Int) then (if (((rd_T30 x10 0).f0).length : Int) = 1 then (if 0 < (((rd_T30 x10 0).f0).length : Int) then (if (rd ((rd_T30 x10 0).f0) 0) < 0 then (some false) else (if (rd ((rd_T30 x10 0).f0) 0) ≥ x0 then (some false) else (if 0 ≤ (rd ((rd_T30 x10 0).f0) 0) then (if (rd ((rd_T30 x10 0).f0) 0) < (x7.length : Int) then (hushlaw3_DiceEven.l1 k x0 x1 x5 (x7.set ((rd ((rd_T30 x10 0).f0) 0) : Int).toNat (wrap64 ((rd x7 (rd ((rd_T30 x10 0).f0) 0)) + 1))) (wrap64 (x8 + 1)) (wrap64 (x9 + 1))) else (none)) else (none)))) else (none)) else (some false)) else (none)))
def hushlaw3_DiceEven.l2 : Nat → Int → Int → Int → List Int → Int → Int → Option (Bool)
  | 0, _, _, _, _, _, _ => none
  | k + 1, x0, x5, x8, x100, x101, x102 => if x102 < x101 then (if 0 ≤ x102 then (if x102 < (x100.length : Int) then (if x0 = 0 then (none) else (if (rd x100 x102) = (wrap64 (Int.tdiv x5 x0)) then (hushlaw3_DiceEven.l2 k x0 x5 x8 x100 x101 (wrap64 (x102 + 1))) else (some false))) else (none)) else (none)) else (some (decide ((wrap64 (x5 - x8)) < x0)))
end
def hushlaw3_DiceEven.f (k : Nat) (a0 : Int) (a1 : Int) : Option (Bool) := (hushlaw3_alive.f k).bind fun t125 => (if t125 = true then (if a0 < 1 then (hushlaw3_DiceEven.j0 k a0 a1 true) else (if a0 > 64 then (hushlaw3_DiceEven.j0 k a0 a1 true) else (if a1 < 0 then (hushlaw3_DiceEven.j0 k a0 a1 true) else (hushlaw3_DiceEven.j0 k a0 a1 (decide (a1 > 9)))))) else (some false))
theorem hushlaw3_DiceEven.mono_l : ∀ k, (∀ y0 y1 y2, LeO (hushlaw3_DiceEven.j0 k y0 y1 y2) (hushlaw3_DiceEven.j0 (k + 1) y0 y1 y2)) ∧ (∀ y0 y1 y2 y3, LeO (hushlaw3_DiceEven.l0 k y0 y1 y2 y3) (hushlaw3_DiceEven.l0 (k + 1) y0 y1 y2 y3)) ∧ (∀ y0 y1 y2 y3 y4 y5, LeO (hushlaw3_DiceEven.l1 k y0 y1 y2 y3 y4 y5) (hushlaw3_DiceEven.l1 (k + 1) y0 y1 y2 y3 y4 y5)) ∧ (∀ y0 y1 y2 y3 y4 y5 y6 y7, LeO (hushlaw3_DiceEven.j3 k y0 y1 y2 y3 y4 y5 y6 y7) (hushlaw3_DiceEven.j3 (k + 1) y0 y1 y2 y3 y4 y5 y6 y7)) ∧ (∀ y0 y1 y2 y3 y4 y5, LeO (hushlaw3_DiceEven.l2 k y0 y1 y2 y3 y4 y5) (hushlaw3_DiceEven.l2 (k + 1) y0 y1 y2 y3 y4 y5))
  | 0 => ⟨fun _ _ _ r h => by simp [hushlaw3_DiceEven.j0] at h, fun _ _ _ _ r h => by simp [hushlaw3_DiceEven.l0] at h, fun _ _ _ _ _ _ r h => by simp [hushlaw3_DiceEven.l1] at h, fun _ _ _ _ _ _ _ _ r h => by simp [hushlaw3_DiceEven.j3] at h, fun _ _ _ _ _ _ r h => by simp [hushlaw3_DiceEven.l2] at h⟩
  | k + 1 => by
    obtain ⟨ih0, ih1, ih2, ih3, ih4⟩ := hushlaw3_DiceEven.mono_l k
    refine ⟨?_, ?_, ?_, ?_, ?_⟩
    · intro y0 y1 y2
      unfold hushlaw3_DiceEven.j0
      repeat' first
      | (with_reducible exact ih0 _ _ _)
      | (with_reducible exact ih1 _ _ _ _)
      | (with_reducible exact ih2 _ _ _ _ _ _)
      | (with_reducible exact ih3 _ _ _ _ _ _ _ _)
      | (with_reducible exact ih4 _ _ _ _ _ _)
      | (with_reducible exact dice_Evens.mono _ _ _ _)
      | (with_reducible exact hushlaw3_alive.mono _)
      | (with_reducible exact hushlaw3_digits.mono _ _ _)
      | (with_reducible exact LeO.refl _)
      | (with_reducible exact LeO.none _)
      | (with_reducible refine LeO.ite ?_ ?_)
      | (with_reducible refine LeO.bind ?_ (fun _ => ?_))
      | exact ih0 _ _ _
      | exact ih1 _ _ _ _
      | exact ih2 _ _ _ _ _ _
      | exact ih3 _ _ _ _ _ _ _ _
      | exact ih4 _ _ _ _ _ _
      | exact dice_Evens.mono _ _ _ _
      | exact hushlaw3_alive.mono _
      | exact hushlaw3_digits.mono _ _ _
      | exact LeO.none _
      | refine LeO.ite ?_ ?_
      | refine LeO.bind ?_ (fun _ => ?_)
    · intro y0 y1 y2 y3
      unfold hushlaw3_DiceEven.l0
      repeat' first
      | (with_reducible exact ih0 _ _ _)
      | (with_reducible exact ih1 _ _ _ _)
      | (with_reducible exact ih2 _ _ _ _ _ _)
      | (with_reducible exact ih3 _ _ _ _ _ _ _ _)
      | (with_reducible exact ih4 _ _ _ _ _ _)
      | (with_reducible exact dice_Evens.mono _ _ _ _)
      | (with_reducible exact hushlaw3_alive.mono _)
      | (with_reducible exact hushlaw3_digits.mono _ _ _)
      | (with_reducible exact LeO.refl _)
      | (with_reducible exact LeO.none _)
      | (with_reducible refine LeO.ite ?_ ?_)
      | (with_reducible refine LeO.bind ?_ (fun _ => ?_))
      | exact ih0 _ _ _
      | exact ih1 _ _ _ _
      | exact ih2 _ _ _ _ _ _
      | exact ih3 _ _ _ _ _ _ _ _
      | exact ih4 _ _ _ _ _ _
      | exact dice_Evens.mono _ _ _ _
      | exact hushlaw3_alive.mono _
      | exact hushlaw3_digits.mono _ _ _
      | exact LeO.none _
      | refine LeO.ite ?_ ?_
      | refine LeO.bind ?_ (fun _ => ?_)
    · intro y0 y1 y2 y3 y4 y5
      unfold hushlaw3_DiceEven.l1
      repeat' first
      | (with_reducible exact ih0 _ _ _)
      | (with_reducible exact ih1 _ _ _ _)
      | (with_reducible exact ih2 _ _ _ _ _ _)
      | (with_reducible exact ih3 _ _ _ _ _ _ _ _)
      | (with_reducible exact ih4 _ _ _ _ _ _)
      | (with_reducible exact dice_Evens.mono _ _ _ _)
      | (with_reducible exact hushlaw3_alive.mono _)
      | (with_reducible exact hushlaw3_digits.mono _ _ _)
      | (with_reducible exact LeO.refl _)
      | (with_reducible exact LeO.none _)
      | (with_reducible refine LeO.ite ?_ ?_)
      | (with_reducible refine LeO.bind ?_ (fun _ => ?_))
      | exact ih0 _ _ _
      | exact ih1 _ _ _ _
      | exact ih2 _ _ _ _ _ _
      | exact ih3 _ _ _ _ _ _ _ _
      | exact ih4 _ _ _ _ _ _
      | exact dice_Evens.mono _ _ _ _
      | exact hushlaw3_alive.mono _
      | exact hushlaw3_digits.mono _ _ _
      | exact LeO.none _
      | refine LeO.ite ?_ ?_
      | refine LeO.bind ?_ (fun _ => ?_)
    · intro y0 y1 y2 y3 y4 y5 y6 y7
      unfold hushlaw3_DiceEven.j3
      repeat' first
      | (with_reducible exact ih0 _ _ _)
      | (with_reducible exact ih1 _ _ _ _)
      | (with_reducible exact ih2 _ _ _ _ _ _)
      | (with_reducible exact ih3 _ _ _ _ _ _ _ _)
      | (with_reducible exact ih4 _ _ _ _ _ _)
      | (with_reducible exact dice_Evens.mono _ _ _ _)
      | (with_reducible exact hushlaw3_alive.mono _)
      | (with_reducible exact hushlaw3_digits.mono _ _ _)
      | (with_reducible exact LeO.refl _)
      | (with_reducible exact LeO.none _)
      | (with_reducible refine LeO.ite ?_ ?_)
      | (with_reducible refine LeO.bind ?_ (fun _ => ?_))
      | exact ih0 _ _ _
      | exact ih1 _ _ _ _
      | exact ih2 _ _ _ _ _ _
      | exact ih3 _ _ _ _ _ _ _ _
      | exact ih4 _ _ _ _ _ _
      | exact dice_Evens.mono _ _ _ _
      | exact hushlaw3_alive.mono _
      | exact hushlaw3_digits.mono _ _ _
      | exact LeO.none _
      | refine LeO.ite ?_ ?_
      | refine LeO.bind ?_ (fun _ => ?_)
    · intro y0 y1 y2 y3 y4 y5
      unfold hushlaw3_DiceEven.l2
      repeat' first
      | (with_reducible exact ih0 _ _ _)
      | (with_reducible exact ih1 _ _ _ _)
      | (with_reducible exact ih2 _ _ _ _ _ _)
      | (with_reducible exact ih3 _ _ _ _ _ _ _ _)
      | (with_reducible exact ih4 _ _ _ _ _ _)
      | (with_reducible exact dice_Evens.mono _ _ _ _)
      | (with_reducible exact hushlaw3_alive.mono _)
      | (with_reducible exact hushlaw3_digits.mono _ _ _)
      | (with_reducible exact LeO.refl _)
      | (with_reducible exact LeO.none _)
      | (with_reducible refine LeO.ite ?_ ?_)
      | (with_reducible refine LeO.bind ?_ (fun _ => ?_))
      | exact ih0 _ _ _
      | exact ih1 _ _ _ _
      | exact ih2 _ _ _ _ _ _
      | exact ih3 _ _ _ _ _ _ _ _
      | exact ih4 _ _ _ _ _ _
      | exact dice_Evens.mono _ _ _ _
      | exact hushlaw3_alive.mono _
      | exact hushlaw3_digits.mono _ _ _
      | exact LeO.none _
      | refine LeO.ite ?_ ?_
      | refine LeO.bind ?_ (fun _ => ?_)
theorem hushlaw3_DiceEven.mono : ∀ a0 a1 k, LeO (hushlaw3_DiceEven.f k a0 a1) (hushlaw3_DiceEven.f (k + 1) a0 a1) := by
  intro a0 a1 k
  obtain ⟨ih0, ih1, ih2, ih3, ih4⟩ := hushlaw3_DiceEven.mono_l k
  unfold hushlaw3_DiceEven.f
  repeat' first
      | (with_reducible exact ih0 _ _ _)
      | (with_reducible exact ih1 _ _ _ _)
      | (with_reducible exact ih2 _ _ _ _ _ _)
      | (with_reducible exact ih3 _ _ _ _ _ _ _ _)
      | (with_reducible exact ih4 _ _ _ _ _ _)
      | (with_reducible exact dice_Evens.mono _ _ _ _)
      | (with_reducible exact hushlaw3_alive.mono _)
      | (with_reducible exact hushlaw3_digits.mono _ _ _)
      | (with_reducible exact LeO.refl _)
      | (with_reducible exact LeO.none _)
      | (with_reducible refine LeO.ite ?_ ?_)
      | (with_reducible refine LeO.bind ?_ (fun _ => ?_))
      | exact ih0 _ _ _
      | exact ih1 _ _ _ _
      | exact ih2 _ _ _ _ _ _
      | exact ih3 _ _ _ _ _ _ _ _
      | exact ih4 _ _ _ _ _ _
      | exact dice_Evens.mono _ _ _ _
      | exact hushlaw3_alive.mono _
      | exact hushlaw3_digits.mono _ _ _
      | exact LeO.none _
      | refine LeO.ite ?_ ?_
      | refine LeO.bind ?_ (fun _ => ?_)
set_option maxHeartbeats 8000000 in
set_option maxRecDepth 100000 in
theorem hushlaw3_DiceEven.calls (k : Nat) (a0 : Int) (a1 : Int) (r : Bool) (w : World) (h : hushlaw3_DiceEven.f k a0 a1 = some r) :
    Calls Try.prog 3 #[.int .i64 a0, .int .i64 a1] w fun e w' => e = .returned (.bool r) ∧ Below w.heap.size w w' := by
  have HB := Aside0.mk (Below.refl w.heap.size w)
  have H : ((hushlaw3_alive.f k).bind fun t125 => (if t125 = true then (if a0 < 1 then (hushlaw3_DiceEven.j0 k a0 a1 true) else (if a0 > 64 then (hushlaw3_DiceEven.j0 k a0 a1 true) else (if a1 < 0 then (hushlaw3_DiceEven.j0 k a0 a1 true) else (hushlaw3_DiceEven.j0 k a0 a1 (decide (a1 > 9)))))) else (some false))) = some r := h
  clear h
  replace H := Option.bind_eq_some_iff.mp H
  obtain ⟨t125, A30, H⟩ := H
  replace H : (if t125 = true then (if a0 < 1 then (hushlaw3_DiceEven.j0 k a0 a1 true) else (if a0 > 64 then (hushlaw3_DiceEven.j0 k a0 a1 true) else (if a1 < 0 then (hushlaw3_DiceEven.j0 k a0 a1 true) else (hushlaw3_DiceEven.j0 k a0 a1 (decide (a1 > 9)))))) else (some false)) = some r := H
  have A3 := Aside0.mk A30
  clear A30
  by_cases c4 : t125 = true
  · subst c4
    have H1 : (if a0 < 1 then (hushlaw3_DiceEven.j0 k a0 a1 true) else (if a0 > 64 then (hushlaw3_DiceEven.j0 k a0 a1 true) else (if a1 < 0 then (hushlaw3_DiceEven.j0 k a0 a1 true) else (hushlaw3_DiceEven.j0 k a0 a1 (decide (a1 > 9)))))) = some r := by rw [if_pos rfl] at H; exact H
    clear H
    have H := H1
    clear H1
    have HC5 := Aside0.mk H
    clear H
    go_enter Try.func3, Try.ntmps3
    go_upto_region 3 with (first | ((with_reducible refine gate_callee (f := 7) rfl ?_); refine goesL_ (some 14) rfl rfl Try.func7 (by kernel_rfl) rfl #[] rfl (by (try simp only [List.map_toArray, List.map_cons, List.map_nil]); first | done | rfl | (simp only [List.length_drop, List.length_take]; rfl)) ?_; (with_reducible refine (hushlaw3_alive.calls k  true _ A3.out).mono ?_); rintro e w6 ⟨rfl, hb⟩; refine ⟨_, rfl, ?_⟩; have n0_ := Aside0.mk (below_step (by repeat (first | (with_reducible first | exact HB.out | apply below_alloc | apply pw_below_drewN | apply below_drew1) | exact HB.out)) hb); clear HB; have HB := n0_; clear n0_; (try clear hb); (try clear hb2); (try clear hk); (try clear hi)))
    (try simp only [Act.put, List.setIfInBounds_toArray, List.set_cons_zero, List.set_cons_succ])
    go_cut [29] (fun v29 wc => ∃ (kq : Nat) (x29_4 : Bool), v29 = .bool x29_4 ∧ Aside0 (hushlaw3_DiceEven.j0 kq a0 a1 x29_4 = some r) ∧ Aside0 (kq ≤ k) ∧ Aside0 (Below w.heap.size w wc))
    case first =>
      have H := HC5.out
      clear HC5
      by_cases c7 : a0 < 1
      · rw [if_pos c7] at H
        have c7b0 : decide (a0 < 1) = true := decide_eq_true c7
        clear c7
        (first | rw [c7b0] | (simp only [i64_w, i32_w]; rw [c7b0]) | skip)
        have H' := Aside0.mk H
        clear H
        go_wp2
        go_meet
        case rel => exact ⟨_, (true), (by first | rfl | (simp; done) | (simp [*]; done)), H', ⟨by first | omega | exact Nat.le_refl _⟩, ⟨by repeat (first | (with_reducible first | exact HB.out | apply below_alloc | apply pw_below_drewN | apply below_drew1) | exact HB.out)⟩⟩
      · rw [if_neg c7] at H
        have c7b0 : decide (a0 < 1) = false := decide_eq_false c7
        clear c7
        (first | rw [c7b0] | (simp only [i64_w, i32_w]; rw [c7b0]) | skip)
        by_cases c8 : a0 > 64
        · rw [if_pos c8] at H
          have c8b0 : decide (64 < a0) = true := decide_eq_true c8
          clear c8
          have H' := Aside0.mk H
          clear H
          go_wp2
          go_meet
          case rel => exact ⟨_, (true), (by first | rfl | (simp; done) | (simp [*]; done)), H', ⟨by first | omega | exact Nat.le_refl _⟩, ⟨by repeat (first | (with_reducible first | exact HB.out | apply below_alloc | apply pw_below_drewN | apply below_drew1) | exact HB.out)⟩⟩
        · rw [if_neg c8] at H
          have c8b0 : decide (64 < a0) = false := decide_eq_false c8
          clear c8
          by_cases c9 : a1 < 0
          · rw [if_pos c9] at H
            have c9b0 : decide (a1 < 0) = true := decide_eq_true c9
            clear c9
            have H' := Aside0.mk H
            clear H
            go_wp2
            go_meet
            case rel => exact ⟨_, (true), (by first | rfl | (simp; done) | (simp [*]; done)), H', ⟨by first | omega | exact Nat.le_refl _⟩, ⟨by repeat (first | (with_reducible first | exact HB.out | apply below_alloc | apply pw_below_drewN | apply below_drew1) | exact HB.out)⟩⟩
          · rw [if_neg c9] at H
            have c9b0 : decide (a1 < 0) = false := decide_eq_false c9
            clear c9
            have H' := Aside0.mk H
            clear H
            go_wp2
            go_meet
            case rel => exact ⟨_, (decide (a1 > 9)), (by first | rfl | (simp; done) | (simp [*]; done)), H', ⟨by first | omega | exact Nat.le_refl _⟩, ⟨by repeat (first | (with_reducible first | exact HB.out | apply below_alloc | apply pw_below_drewN | apply below_drew1) | exact HB.out)⟩⟩
    case rest =>
      clear HC5
      try clear p2
      try clear c3
      try clear c4
      try clear c7
      try clear c7b0
      try clear c8
      try clear c8b0
      try clear c9
      try clear c9b0
      obtain ⟨kq, x29_4, rfl, HA, HJ4, HB⟩ := hcut
      cases kq with
      | zero => exact absurd HA.out (by simp [hushlaw3_DiceEven.j0])
      | succ kj4 =>
        have H := HA.out
        clear HA
        simp only [hushlaw3_DiceEven.j0] at H
        by_cases c10 : x29_4 = true
        · subst c10
          have H1 : (some true) = some r := by rw [if_pos rfl] at H; exact H
          clear H
          have H := H1
          clear H1
          obtain rfl := Option.some.inj H
          go_wp2
          go_ret
          exact ⟨by first | rfl | (simp [errW_none, errW_some] <;> rfl) | (simp [*, errW_none, errW_some] <;> rfl), by repeat (first | (with_reducible first | exact HB.out | apply below_alloc | apply pw_below_drewN | apply below_drew1) | exact HB.out)⟩
        · replace c10 := Bool.eq_false_iff.mpr c10
          subst c10
          have H1 : (hushlaw3_DiceEven.l0 kj4 a0 a1 1 0) = some r := by rw [if_neg (show ¬ (false = true) by decide)] at H; exact H
          clear H
          have H := H1
          clear H1
          have H' := Aside0.mk H
          clear H
          go_wp2
          go_loopg [5, 6] kj4 (fun kq v5 v6 w' => ∃ (x5_2 : Int) (x6_2 : Int), v5 = .int .i64 x5_2 ∧ v6 = .int .i64 x6_2 ∧ Aside0 (hushlaw3_DiceEven.l0 kq a0 a1 x5_2 x6_2 = some r) ∧ Aside0 (kq ≤ kj4) ∧ Aside0 (Below w.heap.size w w'))
          case atStart => exact ⟨(1), (0), (by first | rfl | (simp; done) | (simp [*]; done)), (by first | rfl | (simp; done) | (simp [*]; done)), H', ⟨Nat.le_refl _⟩, ⟨by repeat (first | (with_reducible first | exact HB.out | apply below_alloc | apply pw_below_drewN | apply below_drew1) | exact HB.out)⟩⟩
          case round =>
            clear H'
            try clear c1
            try clear p2
            try clear c3
            try clear c4
            try clear c7
            try clear c7b0
            try clear c8
            try clear c8b0
            try clear c9
            try clear c9b0
            try clear c10
            try clear p2
            obtain ⟨x5_2, x6_2, rfl, rfl, HA, HK2, HB⟩ := hrel
            cases gk with
            | zero => exact absurd HA.out (by simp [hushlaw3_DiceEven.l0])
            | succ k2 =>
              have H := HA.out
              clear HA
              simp only [hushlaw3_DiceEven.l0] at H
              by_cases c11 : x6_2 < a1
              · rw [if_pos c11] at H
                have c11b0 : decide (x6_2 < a1) = true := decide_eq_true c11
                clear c11
                have H' := Aside0.mk H
                clear H
                go_wp2
                go_roundg k2
                case measure => have := HJ4.out; have := HK2.out; omega
                case rel => exact ⟨(wrap64 (2 * x5_2)), (wrap64 (x6_2 + 1)), (by first | rfl | (simp; done) | (simp [*]; done)), (by first | rfl | (simp; done) | (simp [*]; done)), H', ⟨by have := HJ4.out; have := HK2.out; omega⟩, ⟨by repeat (first | (with_reducible first | exact HB.out | apply below_alloc | apply pw_below_drewN | apply below_drew1) | exact HB.out)⟩⟩
              · rw [if_neg c11] at H
                have c11b0 : decide (x6_2 < a1) = false := decide_eq_false c11
                clear c11
                by_cases c12 : 0 ≤ a0
                · rw [if_pos c12] at H
                  have c12b0 := eq_true c12
                  have c12b1 : decide (0 ≤ a0) = true := decide_eq_true c12
                  clear c12
                  by_cases c13 : (a0 : Int).toNat ≤ 35184372088832
                  · rw [if_pos c13] at H
                    have c13b0 := eq_true c13
                    have c13b1 : decide ((a0 : Int).toNat ≤ 35184372088832) = true := decide_eq_true c13
                    clear c13
                    obtain ⟨y126, hy126⟩ : ∃ y_ : List Int, y_ = (List.replicate (a0 : Int).toNat 0) := ⟨_, rfl⟩
                    replace H : (hushlaw3_DiceEven.l1 k2 a0 a1 x5_2 y126 0 0) = some r := by first | (rw [hy126]; with_reducible exact H) | (have H2_ := (Option.bind_some _ _).symm.trans H; rw [hy126]; with_reducible exact H2_) | (have H2_ := (Option.bind_some _ _).symm.trans H; with_reducible exact H2_) | with_reducible exact H | (rw [hy126]; exact H) | exact H
                    have Ny126 := Aside0.mk hy126
                    clear hy126
                    have H' := Aside0.mk H
                    clear H
                    go_wp2_with (first | ((with_reducible refine gate_dst (N := 38) rfl ?_); (try (refine gate_guard (by rfl) ?_; dsimp only)); refine Kd.R_make (Kd.int .i64) _ 3 rfl (N := 38) rfl 23 _ _ rfl a0 rfl rfl Try.underlying23 (.int .i64 0) 8 info3 rfl (by decide) (by omega) 0 (ok := fun _ => True) (okp := fun _ => True) rfl (fun _ hk => hk) trivial (of_decide_eq_true (by first | (with_reducible assumption) | assumption)) (Nat.le_trans (Nat.mul_le_mul_right _ (of_decide_eq_true (by first | (with_reducible assumption) | assumption) : a0.toNat ≤ 35184372088832)) (by omega)) (Below.refl _ _) (Nat.le_refl _) ?_; intro v127 w14 ho15 hb hg_ hnew_; clear hg_ hnew_; (first | rw [← Ny126.out] at ho15 | (simp only [Int.reduceToNat] at ho15; rw [← Ny126.out] at ho15)); have n0_ := Aside0.mk (Kd.R_lower ho15 (below_size (by repeat (first | (with_reducible first | exact HB.out | apply below_alloc | apply pw_below_drewN | apply below_drew1) | exact HB.out)))); have n1_ := Aside0.mk (below_step (by repeat (first | (with_reducible first | exact HB.out | apply below_alloc | apply pw_below_drewN | apply below_drew1) | exact HB.out)) hb); clear HB; have HO128 := n0_; have HB := n1_; clear n0_ n1_; clear hb ho15))
                    go_loopg [8, 9] k2 (fun kq v8 v9 w' => ∃ (x7_3 : List Int) (x8_3 : Int) (x9_3 : Int), v8 = .int .i64 x8_3 ∧ v9 = .int .i64 x9_3 ∧ Aside0 (hushlaw3_DiceEven.l1 kq a0 a1 x5_2 x7_3 x8_3 x9_3 = some r) ∧ Aside0 (kq ≤ k2) ∧ Aside0 (Kd.R (Kd.int .i64) 3 w' w.heap.size (fun _ => True) v127 x7_3) ∧ Aside0 (Below w.heap.size w w'))
                    case atStart => exact ⟨(y126), (0), (0), (by first | rfl | (simp; done) | (simp [*]; done)), (by first | rfl | (simp; done) | (simp [*]; done)), H', ⟨Nat.le_refl _⟩, ⟨by (with_reducible repeat (first | apply Kd.R_alloc | apply Kd.R_drewN | apply Kd.R_drew)); exact HO128.out⟩, ⟨by repeat (first | (with_reducible first | exact HB.out | apply below_alloc | apply pw_below_drewN | apply below_drew1) | exact HB.out)⟩⟩
                    case round =>
                      clear H'
                      try clear c1
                      try clear p2
                      try clear c3
                      try clear c4
                      try clear p6
                      try clear c7
                      try clear c7b0
                      try clear c8
                      try clear c8b0
                      try clear c9
                      try clear c9b0
                      try clear c10
                      try clear c11
                      try clear c11b0
                      try clear c12
                      try clear c12b0
                      try clear c12b1
                      try clear c13
                      try clear c13b0
                      try clear c13b1
                      try clear p2
                      obtain ⟨x7_3, x8_3, x9_3, rfl, rfl, HA, HK3, HO_7, HB⟩ := hrel
                      cases gk with
                      | zero => exact absurd HA.out (by simp [hushlaw3_DiceEven.l1])
                      | succ k3 =>
                        have H := HA.out
                        clear HA
                        simp only [hushlaw3_DiceEven.l1] at H
                        by_cases c16 : x9_3 < x5_2
                        · rw [if_pos c16] at H
                          have c16b0 : decide (x9_3 < x5_2) = true := decide_eq_true c16
                          clear c16
                          replace H := Option.bind_eq_some_iff.mp H
                          obtain ⟨t129, A170, H⟩ := H
                          replace H : ((dice_Evens.f k3 a0 t129 1).bind fun bt132 => (if bt132.2 = 0 then (hushlaw3_DiceEven.j3 k3 a0 a1 x5_2 x7_3 x8_3 x9_3 bt132.1 (decide ((bt132.1.length : Int) > 1))) else (hushlaw3_DiceEven.j3 k3 a0 a1 x5_2 x7_3 x8_3 x9_3 bt132.1 true))) = some r := H
                          have A17 := Aside0.mk A170
                          clear A170
                          replace H := Option.bind_eq_some_iff.mp H
                          obtain ⟨⟨t132, t135⟩, A180, H⟩ := H
                          replace H : (if t135 = 0 then (hushlaw3_DiceEven.j3 k3 a0 a1 x5_2 x7_3 x8_3 x9_3 t132 (decide ((t132.length : Int) > 1))) else (hushlaw3_DiceEven.j3 k3 a0 a1 x5_2 x7_3 x8_3 x9_3 t132 true)) = some r := H
                          have A18 := Aside0.mk A180
                          clear A180
                          have HC19 := Aside0.mk H
                          clear H
                          go_upto_region 16 with (first | ((with_reducible refine gate_callee (f := 9) rfl ?_); refine goesL_ (some 48) rfl rfl Try.func9 (by kernel_rfl) rfl #[.int .i64 x9_3, .int .i64 a1] rfl (by (try simp only [List.map_toArray, List.map_cons, List.map_nil]); first | done | rfl | (simp only [List.length_drop, List.length_take]; rfl)) ?_; (with_reducible refine (hushlaw3_digits.calls k3 x9_3 a1 t129 _ A17.out).mono ?_); rintro e w20 ⟨v130, rfl, ho0, hb⟩; refine ⟨_, rfl, ?_⟩; have n0_ := Aside0.mk (Kd.R_elder' (by (with_reducible repeat (first | apply Kd.R_alloc | apply Kd.R_drewN | apply Kd.R_drew)); exact HO_7.out) (Kd.R_base ho0) hb); have n1_ := Aside0.mk (Kd.R_lower (Kd.R_new' ho0 (Kd.R_lt (by (with_reducible repeat (first | apply Kd.R_alloc | apply Kd.R_drewN | apply Kd.R_drew)); exact HO_7.out))) (below_size (by repeat (first | (with_reducible first | exact HB.out | apply below_alloc | apply pw_below_drewN | apply below_drew1) | exact HB.out)))); have n2_ := Aside0.mk (below_step (by repeat (first | (with_reducible first | exact HB.out | apply below_alloc | apply pw_below_drewN | apply below_drew1) | exact HB.out)) hb); clear HO_7; clear HB; have HO_7 := n0_; have HO131 := n1_; have HB := n2_; clear n0_ n1_ n2_; (try clear hb); (try clear hb2); (try clear hk); (try clear hi); (try clear ho0); obtain ⟨Ao21, co21, eo21⟩ := Kd.R_slice HO131.out; subst eo21) | ((with_reducible refine gate_callee (f := 8) rfl ?_); refine goesL_ (some 49) rfl rfl Try.func8 (by kernel_rfl) rfl #[.int .i64 a0, .slice Ao21 t129.length co21, .int .i64 1] rfl (by (try simp only [List.map_toArray, List.map_cons, List.map_nil]); first | done | rfl | (simp only [List.length_drop, List.length_take]; rfl)) ?_; (with_reducible refine (dice_Evens.calls k3 a0 (fun k_ => some k_ = (.slice Ao21 t129.length co21 : Value).ownBlock) _ _ t129 1 t132 t135 _ ?side1 A18.out).mono ?_); (case side1 => exact Kd.R_V (Kd.R_tight rfl (HO131.out))); rintro e w22 ⟨v133, rfl, ho0, hb⟩; refine ⟨_, rfl, ?_⟩; have n0_ := Aside0.mk (Kd.R_below (by (with_reducible repeat (first | apply Kd.R_alloc | apply Kd.R_drewN | apply Kd.R_drew)); exact HO_7.out) hb); have n1_ := Aside0.mk (Kd.R_below (by (with_reducible repeat (first | apply Kd.R_alloc | apply Kd.R_drewN | apply Kd.R_drew)); exact HO131.out) hb); have n2_ := Aside0.mk (Kd.S_lower (Kd.S_new' (Kd.S_new' (Kd.S_mono (ok' := fun k_ => True) ho0 (fun _ hk_ => trivial)) (Kd.R_lt (by (with_reducible repeat (first | apply Kd.R_alloc | apply Kd.R_drewN | apply Kd.R_drew)); exact HO_7.out))) (Kd.R_lt (by (with_reducible repeat (first | apply Kd.R_alloc | apply Kd.R_drewN | apply Kd.R_drew)); exact HO131.out))) (below_size (by repeat (first | (with_reducible first | exact HB.out | apply below_alloc | apply pw_below_drewN | apply below_drew1) | exact HB.out)))); have n3_ := Aside0.mk (below_step (by repeat (first | (with_reducible first | exact HB.out | apply below_alloc | apply pw_below_drewN | apply below_drew1) | exact HB.out)) hb); clear HO_7; clear HO131; clear HB; have HO_7 := n0_; have HO131 := n1_; have HO134 := n2_; have HB := n3_; clear n0_ n1_ n2_ n3_; (try clear hb); (try clear hb2); (try clear hk); (try clear hi); (try clear ho0)))
                          (try simp only [Act.put, List.setIfInBounds_toArray, List.set_cons_zero, List.set_cons_succ])
                          go_cut [58] (fun v58 wc => ∃ (kq : Nat) (x58_18 : Bool), v58 = .bool x58_18 ∧ Aside0 (hushlaw3_DiceEven.j3 kq a0 a1 x5_2 x7_3 x8_3 x9_3 t132 x58_18 = some r) ∧ Aside0 (kq ≤ k3) ∧ Aside0 (Kd.R (Kd.int .i64) 3 wc w.heap.size (fun _ => True) v127 x7_3) ∧ Aside0 (Kd.S k30 30 wc w.heap.size (fun k_ => some k_ ≠ (v127 : Value).ownBlock) v133 t132) ∧ Aside0 (Below w.heap.size w wc))
                          case first =>
                            have H := HC19.out
                            clear HC19
                            by_cases c23 : t135 = 0
                            · rw [if_pos c23] at H
                              have c23b0 : (t135 == 0) = true := beq_iff_eq.mpr c23
                              have c23b1 : (t135 != 0) = false := bne_eq_false_iff_eq.mpr c23
                              clear c23
                              (first | rw [c23b0] | (simp only [i64_w, i32_w]; rw [c23b0]) | skip)
                              have H' := Aside0.mk H
                              clear H
                              obtain ⟨Ao24, co24, eo24⟩ := Kd.S_slice HO134.out
                              subst eo24
                              go_wp2
                              go_meet
                              case rel => exact ⟨_, (decide ((t132.length : Int) > 1)), (by first | rfl | (simp; done) | (simp [*]; done)), H', ⟨by have := HJ4.out; have := HK2.out; have := HK3.out; first | omega | exact Nat.le_refl _⟩, ⟨by (with_reducible repeat (first | apply Kd.R_alloc | apply Kd.R_drewN | apply Kd.R_drew)); exact Kd.R_mono HO_7.out (fun _ hk => trivial)⟩, ⟨by (with_reducible repeat (first | apply Kd.S_alloc | apply Kd.S_drewN | apply Kd.S_drew)); exact Kd.S_mono HO134.out (fun _ hk => hk.1.2)⟩, ⟨by repeat (first | (with_reducible first | exact HB.out | apply below_alloc | apply pw_below_drewN | apply below_drew1) | exact HB.out)⟩⟩
                            · rw [if_neg c23] at H
                              have c23b0 : (t135 == 0) = false := beq_eq_false_iff_ne.mpr c23
                              have c23b1 : (t135 != 0) = true := bne_iff_ne.mpr c23
                              (first | rw [c23b0] | (simp only [i64_w, i32_w]; rw [c23b0]) | skip)
                              have H' := Aside0.mk H
                              clear H
                              go_wp2
                              go_meet
                              case rel => exact ⟨_, (true), (by first | rfl | (simp; done) | (simp [*]; done)), H', ⟨by have := HJ4.out; have := HK2.out; have := HK3.out; first | omega | exact Nat.le_refl _⟩, ⟨by (with_reducible repeat (first | apply Kd.R_alloc | apply Kd.R_drewN | apply Kd.R_drew)); exact Kd.R_mono HO_7.out (fun _ hk => trivial)⟩, ⟨by (with_reducible repeat (first | apply Kd.S_alloc | apply Kd.S_drewN | apply Kd.S_drew)); exact Kd.S_mono HO134.out (fun _ hk => hk.1.2)⟩, ⟨by repeat (first | (with_reducible first | exact HB.out | apply below_alloc | apply pw_below_drewN | apply below_drew1) | exact HB.out)⟩⟩
                          case rest =>
                            clear HC19
                            try clear c1
                            try clear c2
                            try clear p2
                            try clear c3
                            try clear c4
                            try clear p6
                            try clear c7
                            try clear c7b0
                            try clear c8
                            try clear c8b0
                            try clear c9
                            try clear c9b0
                            try clear c10
                            try clear c11
                            try clear c11b0
                            try clear c12
                            try clear c12b0
                            try clear c12b1
                            try clear c13
                            try clear c13b0
                            try clear c13b1
                            try clear c16
                            try clear c16b0
                            try clear c23
                            try clear c23b0
                            try clear c23b1
                            try clear p2
                            try clear p6
                            obtain ⟨kq, x58_18, rfl, HA, HJ18, HO_7, HO_10, HB⟩ := hcut
                            cases kq with
                            | zero => exact absurd HA.out (by simp [hushlaw3_DiceEven.j3])
                            | succ kj18 =>
                              have H := HA.out
                              clear HA
                              simp only [hushlaw3_DiceEven.j3] at H
                              by_cases c25 : x58_18 = true
                              · subst c25
                                have H1 : (some false) = some r := by rw [if_pos rfl] at H; exact H
                                clear H
                                have H := H1
                                clear H1
                                obtain rfl := Option.some.inj H
                                go_wp2
                                go_ret
                                exact ⟨by first | rfl | (simp [errW_none, errW_some] <;> rfl) | (simp [*, errW_none, errW_some] <;> rfl), by repeat (first | (with_reducible first | exact HB.out | apply below_alloc | apply pw_below_drewN | apply below_drew1) | exact HB.out)⟩
                              · replace c25 := Bool.eq_false_iff.mpr c25
                                subst c25
                                have H1 : (if (t132.length : Int) = 0 then (hushlaw3_DiceEven.l1 kj18 a0 a1 x5_2 x7_3 x8_3 (wrap64 (x9_3 + 1))) else (if 0 < (t132.length : Int) then (if (((rd_T30 t132 0).f0).length : Int) = 1 then (if 0 < (((rd_T30 t132 0).f0).length : Int) then (if (rd ((rd_T30 t132 0).f0) 0) < 0 then (some false) else (if (rd ((rd_T30 t132 0).f0) 0) ≥ a0 then (some false) else (if 0 ≤ (rd ((rd_T30 t132 0).f0) 0) then (if (rd ((rd_T30 t132 0).f0) 0) < (x7_3.length : Int) then (hushlaw3_DiceEven.l1 kj18 a0 a1 x5_2 (x7_3.set ((rd ((rd_T30 t132 0).f0) 0) : Int).toNat (wrap64 ((rd x7_3 (rd ((rd_T30 t132 0).f0) 0)) + 1))) (wrap64 (x8_3 + 1)) (wrap64 (x9_3 + 1))) else (none)) else (none)))) else (none)) else (some false)) else (none))) = some r := by rw [if_neg (show ¬ (false = true) by decide)] at H; exact H
                                clear H
                                have H := H1
                                clear H1
                                by_cases c26 : (t132.length : Int) = 0
                                · rw [if_pos c26] at H
                                  have c26b0 : ((t132.length : Int) == 0) = true := beq_iff_eq.mpr c26
                                  have c26b1 : ((t132.length : Int) != 0) = false := bne_eq_false_iff_eq.mpr c26
                                  clear c26
                                  have H' := Aside0.mk H
                                  clear H
                                  obtain ⟨Ao27, co27, eo27⟩ := Kd.S_slice HO_10.out
                                  subst eo27
                                  go_wp2
                                  go_roundg kj18
                                  case measure => have := HJ4.out; have := HK2.out; have := HK3.out; have := HJ18.out; omega
                                  case rel => exact ⟨(x7_3), (x8_3), (wrap64 (x9_3 + 1)), (by first | rfl | (simp; done) | (simp [*]; done)), (by first | rfl | (simp; done) | (simp [*]; done)), H', ⟨by have := HJ4.out; have := HK2.out; have := HK3.out; have := HJ18.out; omega⟩, ⟨by (with_reducible repeat (first | apply Kd.R_alloc | apply Kd.R_drewN | apply Kd.R_drew)); exact HO_7.out⟩, ⟨by repeat (first | (with_reducible first | exact HB.out | apply below_alloc | apply pw_below_drewN | apply below_drew1) | exact HB.out)⟩⟩
                                · rw [if_neg c26] at H
                                  have c26b0 : ((t132.length : Int) == 0) = false := beq_eq_false_iff_ne.mpr c26
                                  have c26b1 : ((t132.length : Int) != 0) = true := bne_iff_ne.mpr c26
                                  have c26b2 : ¬ (t132 = []) := fun h_ => c26 (by rw [h_]; rfl)
                                  by_cases c28 : 0 < (t132.length : Int)
                                  · rw [if_pos c28] at H
                                    have c28b0 : decide (0 < (t132.length : Int)) = true := decide_eq_true c28
                                    have c28b1 : decide (0 < t132.length) = true := decide_eq_true (by omega)
                                    clear c28
                                    by_cases c29 : (((rd_T30 t132 0).f0).length : Int) = 1
                                    · rw [if_pos c29] at H
                                      have c29b0 : ((((rd_T30 t132 0).f0).length : Int) == 1) = true := beq_iff_eq.mpr c29
                                      have c29b1 : ((((rd_T30 t132 0).f0).length : Int) != 1) = false := bne_eq_false_iff_eq.mpr c29
                                      clear c29
                                      by_cases c30 : 0 < (((rd_T30 t132 0).f0).length : Int)
                                      · rw [if_pos c30] at H
                                        have c30b0 : decide (0 < (((rd_T30 t132 0).f0).length : Int)) = true := decide_eq_true c30
                                        have c30b1 : decide (0 < ((rd_T30 t132 0).f0).length) = true := decide_eq_true (by omega)
                                        clear c30
                                        by_cases c31 : (rd ((rd_T30 t132 0).f0) 0) < 0
                                        · rw [if_pos c31] at H
                                          have c31b0 : decide ((rd ((rd_T30 t132 0).f0) 0) < 0) = true := decide_eq_true c31
                                          clear c31
                                          obtain rfl := Option.some.inj H
                                          obtain ⟨Ao32, co32, eo32⟩ := Kd.S_slice HO_10.out
                                          subst eo32
                                          have p136 : 0 ≤ (0 : Int) := (by omega)
                                          have q136 : 0 < (t132.length : Int) := of_decide_eq_true (by first | (with_reducible assumption) | assumption)
                                          obtain ⟨ad136, A136_0, c136_0, e136, hx136_0, hx136_1, hl136_0, hi136_0⟩ := at_T30 (Kd.S_reads' HO_10.out).2.2 0 p136 q136
                                          cases e136
                                          obtain ⟨ce136, hce136, hMe136, hcc136⟩ := Kd.S_get HO_10.out z30 0 p136 (by first | exact q136 | exact of_decide_eq_true (by first | (with_reducible assumption) | assumption) | (have e_ := (Kd.S_reads' HO_10.out).1; omega))
                                          obtain ⟨ve136_0, rfl, ge136_0⟩ := k30_openM hMe136
                                          have hv136_0 := hcc136 0 _ rfl
                                          rw [Nat.add_zero] at hv136_0
                                          replace hv136_0 := Option.some.inj (hv136_0.symm.trans hx136_0)
                                          rw [hv136_0] at ge136_0
                                          have HL136_0 := Aside0.mk (show Kd.R (Kd.int .i64) 3 _ _ _ _ ((rd_T30 t132 0).f0) from ge136_0)
                                          clear hv136_0 ge136_0
                                          clear hcc136 hce136
                                          have qi136 : (0 < t132.length) = True := eq_true (by omega)
                                          (try rw [show ((0 : Int)).toNat = 0 from rfl] at hx136_0)
                                          (try rw [show 0 * 2 = 0 from rfl] at hx136_0)
                                          (try rw [Addr.add_zero'] at hx136_0)
                                          (try rw [show ((0 : Int)).toNat = 0 from rfl] at hx136_1)
                                          (try rw [show 0 * 2 = 0 from rfl] at hx136_1)
                                          (try rw [Addr.add_zero'] at hx136_1)
                                          have HR136_0 := Aside0.mk hi136_0
                                          have HC136_0 := Aside0.mk hl136_0
                                          clear hi136_0 hl136_0
                                          replace p136 := eq_true p136
                                          replace q136 := eq_true q136
                                          have p137 : 0 ≤ (0 : Int) := (by omega)
                                          have q137 : 0 < (t132.length : Int) := of_decide_eq_true (by first | (with_reducible assumption) | assumption)
                                          obtain ⟨ad137, A137_0, c137_0, e137, hx137_0, hx137_1, hl137_0, hi137_0⟩ := at_T30 (Kd.S_reads' HO_10.out).2.2 0 p137 q137
                                          obtain rfl : ad136 = ad137 := (by injection e137)
                                          obtain ⟨ce137, hce137, hMe137, hcc137⟩ := Kd.S_get HO_10.out z30 0 p137 (by first | exact q137 | exact of_decide_eq_true (by first | (with_reducible assumption) | assumption) | (have e_ := (Kd.S_reads' HO_10.out).1; omega))
                                          obtain ⟨ve137_0, rfl, ge137_0⟩ := k30_openM hMe137
                                          have hv137_0 := hcc137 0 _ rfl
                                          rw [Nat.add_zero] at hv137_0
                                          replace hv137_0 := Option.some.inj (hv137_0.symm.trans hx137_0)
                                          rw [hv137_0] at ge137_0
                                          have HL137_0 := Aside0.mk (show Kd.R (Kd.int .i64) 3 _ _ _ _ ((rd_T30 t132 0).f0) from ge137_0)
                                          clear hv137_0 ge137_0
                                          clear hcc137 hce137
                                          have qi137 : (0 < t132.length) = True := eq_true (by omega)
                                          (try rw [show ((0 : Int)).toNat = 0 from rfl] at hx137_0)
                                          (try rw [show 0 * 2 = 0 from rfl] at hx137_0)
                                          (try rw [Addr.add_zero'] at hx137_0)
                                          (try rw [show ((0 : Int)).toNat = 0 from rfl] at hx137_1)
                                          (try rw [show 0 * 2 = 0 from rfl] at hx137_1)
                                          (try rw [Addr.add_zero'] at hx137_1)
                                          have HR137_0 := Aside0.mk hi137_0
                                          have HC137_0 := Aside0.mk hl137_0
                                          clear hi137_0 hl137_0
                                          replace p137 := eq_true p137
                                          replace q137 := eq_true q137
                                          have ea_ := Option.some.inj (hx136_0.symm.trans hx137_0)
                                          injection ea_ with ea_ en_ ec_
                                          subst ea_
                                          subst ec_
                                          clear en_
                                          have p138 : 0 ≤ (0 : Int) := (by omega)
                                          have q138 : 0 < (((rd_T30 t132 0).f0).length : Int) := of_decide_eq_true (by first | (with_reducible assumption) | assumption)
                                          obtain ⟨ad138, e138, hx138_0⟩ := Kd.at_int (by repeat (first | (with_reducible exact HR137_0.out) | (with_reducible refine Kd.C_alloc ?_ _) | (with_reducible refine Kd.C_drewN ?_ _) | (with_reducible refine Kd.C_drew ?_) | exact HR137_0.out)) 0 p138 q138
                                          cases e138
                                          have qi138 : (0 < ((rd_T30 t132 0).f0).length) = True := eq_true (by omega)
                                          (try rw [show ((0 : Int)).toNat = 0 from rfl] at hx138_0)
                                          (try rw [Addr.add_zero'] at hx138_0)
                                          replace p138 := eq_true p138
                                          replace q138 := eq_true q138
                                          go_wp2
                                          go_ret
                                          exact ⟨by first | rfl | (simp [errW_none, errW_some] <;> rfl) | (simp [*, errW_none, errW_some] <;> rfl), by repeat (first | (with_reducible first | exact HB.out | apply below_alloc | apply pw_below_drewN | apply below_drew1) | exact HB.out)⟩
                                        · rw [if_neg c31] at H
                                          have c31b0 : decide ((rd ((rd_T30 t132 0).f0) 0) < 0) = false := decide_eq_false c31
                                          clear c31
                                          by_cases c33 : (rd ((rd_T30 t132 0).f0) 0) ≥ a0
                                          · rw [if_pos c33] at H
                                            have c33b0 : decide (a0 ≤ (rd ((rd_T30 t132 0).f0) 0)) = true := decide_eq_true c33
                                            clear c33
                                            obtain rfl := Option.some.inj H
                                            obtain ⟨Ao34, co34, eo34⟩ := Kd.S_slice HO_10.out
                                            subst eo34
                                            have p136 : 0 ≤ (0 : Int) := (by omega)
                                            have q136 : 0 < (t132.length : Int) := of_decide_eq_true (by first | (with_reducible assumption) | assumption)
                                            obtain ⟨ad136, A136_0, c136_0, e136, hx136_0, hx136_1, hl136_0, hi136_0⟩ := at_T30 (Kd.S_reads' HO_10.out).2.2 0 p136 q136
                                            cases e136
                                            obtain ⟨ce136, hce136, hMe136, hcc136⟩ := Kd.S_get HO_10.out z30 0 p136 (by first | exact q136 | exact of_decide_eq_true (by first | (with_reducible assumption) | assumption) | (have e_ := (Kd.S_reads' HO_10.out).1; omega))
                                            obtain ⟨ve136_0, rfl, ge136_0⟩ := k30_openM hMe136
                                            have hv136_0 := hcc136 0 _ rfl
                                            rw [Nat.add_zero] at hv136_0
                                            replace hv136_0 := Option.some.inj (hv136_0.symm.trans hx136_0)
                                            rw [hv136_0] at ge136_0
                                            have HL136_0 := Aside0.mk (show Kd.R (Kd.int .i64) 3 _ _ _ _ ((rd_T30 t132 0).f0) from ge136_0)
                                            clear hv136_0 ge136_0
                                            clear hcc136 hce136
                                            have qi136 : (0 < t132.length) = True := eq_true (by omega)
                                            (try rw [show ((0 : Int)).toNat = 0 from rfl] at hx136_0)
                                            (try rw [show 0 * 2 = 0 from rfl] at hx136_0)
                                            (try rw [Addr.add_zero'] at hx136_0)
                                            (try rw [show ((0 : Int)).toNat = 0 from rfl] at hx136_1)
                                            (try rw [show 0 * 2 = 0 from rfl] at hx136_1)
                                            (try rw [Addr.add_zero'] at hx136_1)
                                            have HR136_0 := Aside0.mk hi136_0
                                            have HC136_0 := Aside0.mk hl136_0
                                            clear hi136_0 hl136_0
                                            replace p136 := eq_true p136
                                            replace q136 := eq_true q136
                                            have p137 : 0 ≤ (0 : Int) := (by omega)
                                            have q137 : 0 < (t132.length : Int) := of_decide_eq_true (by first | (with_reducible assumption) | assumption)
                                            obtain ⟨ad137, A137_0, c137_0, e137, hx137_0, hx137_1, hl137_0, hi137_0⟩ := at_T30 (Kd.S_reads' HO_10.out).2.2 0 p137 q137
                                            obtain rfl : ad136 = ad137 := (by injection e137)
                                            obtain ⟨ce137, hce137, hMe137, hcc137⟩ := Kd.S_get HO_10.out z30 0 p137 (by first | exact q137 | exact of_decide_eq_true (by first | (with_reducible assumption) | assumption) | (have e_ := (Kd.S_reads' HO_10.out).1; omega))
                                            obtain ⟨ve137_0, rfl, ge137_0⟩ := k30_openM hMe137
                                            have hv137_0 := hcc137 0 _ rfl
                                            rw [Nat.add_zero] at hv137_0
                                            replace hv137_0 := Option.some.inj (hv137_0.symm.trans hx137_0)
                                            rw [hv137_0] at ge137_0
                                            have HL137_0 := Aside0.mk (show Kd.R (Kd.int .i64) 3 _ _ _ _ ((rd_T30 t132 0).f0) from ge137_0)
                                            clear hv137_0 ge137_0
                                            clear hcc137 hce137
                                            have qi137 : (0 < t132.length) = True := eq_true (by omega)
                                            (try rw [show ((0 : Int)).toNat = 0 from rfl] at hx137_0)
                                            (try rw [show 0 * 2 = 0 from rfl] at hx137_0)
                                            (try rw [Addr.add_zero'] at hx137_0)
                                            (try rw [show ((0 : Int)).toNat = 0 from rfl] at hx137_1)
                                            (try rw [show 0 * 2 = 0 from rfl] at hx137_1)
                                            (try rw [Addr.add_zero'] at hx137_1)
                                            have HR137_0 := Aside0.mk hi137_0
                                            have HC137_0 := Aside0.mk hl137_0
                                            clear hi137_0 hl137_0
                                            replace p137 := eq_true p137
                                            replace q137 := eq_true q137
                                            have ea_ := Option.some.inj (hx136_0.symm.trans hx137_0)
                                            injection ea_ with ea_ en_ ec_
                                            subst ea_
                                            subst ec_
                                            clear en_
                                            have p138 : 0 ≤ (0 : Int) := (by omega)
                                            have q138 : 0 < (((rd_T30 t132 0).f0).length : Int) := of_decide_eq_true (by first | (with_reducible assumption) | assumption)
                                            obtain ⟨ad138, e138, hx138_0⟩ := Kd.at_int (by repeat (first | (with_reducible exact HR137_0.out) | (with_reducible refine Kd.C_alloc ?_ _) | (with_reducible refine Kd.C_drewN ?_ _) | (with_reducible refine Kd.C_drew ?_) | exact HR137_0.out)) 0 p138 q138
                                            cases e138
                                            have qi138 : (0 < ((rd_T30 t132 0).f0).length) = True := eq_true (by omega)
                                            (try rw [show ((0 : Int)).toNat = 0 from rfl] at hx138_0)
                                            (try rw [Addr.add_zero'] at hx138_0)
                                            replace p138 := eq_true p138
                                            replace q138 := eq_true q138
                                            have p139 : 0 ≤ (0 : Int) := (by omega)
                                            have q139 : 0 < (t132.length : Int) := of_decide_eq_true (by first | (with_reducible assumption) | assumption)
                                            obtain ⟨ad139, A139_0, c139_0, e139, hx139_0, hx139_1, hl139_0, hi139_0⟩ := at_T30 (Kd.S_reads' HO_10.out).2.2 0 p139 q139
                                            obtain rfl : ad136 = ad139 := (by injection e139)
                                            obtain ⟨ce139, hce139, hMe139, hcc139⟩ := Kd.S_get HO_10.out z30 0 p139 (by first | exact q139 | exact of_decide_eq_true (by first | (with_reducible assumption) | assumption) | (have e_ := (Kd.S_reads' HO_10.out).1; omega))
                                            obtain ⟨ve139_0, rfl, ge139_0⟩ := k30_openM hMe139
                                            have hv139_0 := hcc139 0 _ rfl
                                            rw [Nat.add_zero] at hv139_0
                                            replace hv139_0 := Option.some.inj (hv139_0.symm.trans hx139_0)
                                            rw [hv139_0] at ge139_0
                                            have HL139_0 := Aside0.mk (show Kd.R (Kd.int .i64) 3 _ _ _ _ ((rd_T30 t132 0).f0) from ge139_0)
                                            clear hv139_0 ge139_0
                                            clear hcc139 hce139
                                            have qi139 : (0 < t132.length) = True := eq_true (by omega)
                                            (try rw [show ((0 : Int)).toNat = 0 from rfl] at hx139_0)
                                            (try rw [show 0 * 2 = 0 from rfl] at hx139_0)
                                            (try rw [Addr.add_zero'] at hx139_0)
                                            (try rw [show ((0 : Int)).toNat = 0 from rfl] at hx139_1)
                                            (try rw [show 0 * 2 = 0 from rfl] at hx139_1)
                                            (try rw [Addr.add_zero'] at hx139_1)
                                            have HR139_0 := Aside0.mk hi139_0
                                            have HC139_0 := Aside0.mk hl139_0
                                            clear hi139_0 hl139_0
                                            replace p139 := eq_true p139
                                            replace q139 := eq_true q139
                                            have ea_ := Option.some.inj (hx136_0.symm.trans hx139_0)
                                            injection ea_ with ea_ en_ ec_
                                            subst ea_
                                            subst ec_
                                            clear en_
                                            have p140 : 0 ≤ (0 : Int) := (by omega)
                                            have q140 : 0 < (((rd_T30 t132 0).f0).length : Int) := of_decide_eq_true (by first | (with_reducible assumption) | assumption)
                                            obtain ⟨ad140, e140, hx140_0⟩ := Kd.at_int (by repeat (first | (with_reducible exact HR139_0.out) | (with_reducible refine Kd.C_alloc ?_ _) | (with_reducible refine Kd.C_drewN ?_ _) | (with_reducible refine Kd.C_drew ?_) | exact HR139_0.out)) 0 p140 q140
                                            cases e140
                                            have qi140 : (0 < ((rd_T30 t132 0).f0).length) = True := eq_true (by omega)
                                            (try rw [show ((0 : Int)).toNat = 0 from rfl] at hx140_0)
                                            (try rw [Addr.add_zero'] at hx140_0)
                                            replace p140 := eq_true p140
                                            replace q140 := eq_true q140
                                            go_wp2
                                            go_ret
                                            exact ⟨by first | rfl | (simp [errW_none, errW_some] <;> rfl) | (simp [*, errW_none, errW_some] <;> rfl), by repeat (first | (with_reducible first | exact HB.out | apply below_alloc | apply pw_below_drewN | apply below_drew1) | exact HB.out)⟩
                                          · rw [if_neg c33] at H
                                            have c33b0 : decide (a0 ≤ (rd ((rd_T30 t132 0).f0) 0)) = false := decide_eq_false c33
                                            clear c33
                                            by_cases c35 : 0 ≤ (rd ((rd_T30 t132 0).f0) 0)
                                            · rw [if_pos c35] at H
                                              have c35b0 : decide (0 ≤ (rd ((rd_T30 t132 0).f0) 0)) = true := decide_eq_true c35
                                              clear c35
                                              by_cases c36 : (rd ((rd_T30 t132 0).f0) 0) < (x7_3.length : Int)
                                              · rw [if_pos c36] at H
                                                have c36b0 : decide ((rd ((rd_T30 t132 0).f0) 0) < (x7_3.length : Int)) = true := decide_eq_true c36
                                                clear c36
                                                obtain ⟨y144, hy144⟩ : ∃ y_ : List Int, y_ = (x7_3.set ((rd ((rd_T30 t132 0).f0) 0) : Int).toNat (wrap64 ((rd x7_3 (rd ((rd_T30 t132 0).f0) 0)) + 1))) := ⟨_, rfl⟩
                                                replace H : (hushlaw3_DiceEven.l1 kj18 a0 a1 x5_2 y144 (wrap64 (x8_3 + 1)) (wrap64 (x9_3 + 1))) = some r := by first | (rw [hy144]; with_reducible exact H) | (have H2_ := (Option.bind_some _ _).symm.trans H; rw [hy144]; with_reducible exact H2_) | (have H2_ := (Option.bind_some _ _).symm.trans H; with_reducible exact H2_) | with_reducible exact H | (rw [hy144]; exact H) | exact H
                                                have Ny144 := Aside0.mk hy144
                                                clear hy144
                                                have H' := Aside0.mk H
                                                clear H
                                                obtain ⟨Ao38, co38, eo38⟩ := Kd.S_slice HO_10.out
                                                subst eo38
                                                have p136 : 0 ≤ (0 : Int) := (by omega)
                                                have q136 : 0 < (t132.length : Int) := of_decide_eq_true (by first | (with_reducible assumption) | assumption)
                                                obtain ⟨ad136, A136_0, c136_0, e136, hx136_0, hx136_1, hl136_0, hi136_0⟩ := at_T30 (Kd.S_reads' HO_10.out).2.2 0 p136 q136
                                                cases e136
                                                obtain ⟨ce136, hce136, hMe136, hcc136⟩ := Kd.S_get HO_10.out z30 0 p136 (by first | exact q136 | exact of_decide_eq_true (by first | (with_reducible assumption) | assumption) | (have e_ := (Kd.S_reads' HO_10.out).1; omega))
                                                obtain ⟨ve136_0, rfl, ge136_0⟩ := k30_openM hMe136
                                                have hv136_0 := hcc136 0 _ rfl
                                                rw [Nat.add_zero] at hv136_0
                                                replace hv136_0 := Option.some.inj (hv136_0.symm.trans hx136_0)
                                                rw [hv136_0] at ge136_0
                                                have HL136_0 := Aside0.mk (show Kd.R (Kd.int .i64) 3 _ _ _ _ ((rd_T30 t132 0).f0) from ge136_0)
                                                clear hv136_0 ge136_0
                                                clear hcc136 hce136
                                                have qi136 : (0 < t132.length) = True := eq_true (by omega)
                                                (try rw [show ((0 : Int)).toNat = 0 from rfl] at hx136_0)
                                                (try rw [show 0 * 2 = 0 from rfl] at hx136_0)
                                                (try rw [Addr.add_zero'] at hx136_0)
                                                (try rw [show ((0 : Int)).toNat = 0 from rfl] at hx136_1)
                                                (try rw [show 0 * 2 = 0 from rfl] at hx136_1)
                                                (try rw [Addr.add_zero'] at hx136_1)
                                                have HR136_0 := Aside0.mk hi136_0
                                                have HC136_0 := Aside0.mk hl136_0
                                                clear hi136_0 hl136_0
                                                replace p136 := eq_true p136
                                                replace q136 := eq_true q136
                                                have p137 : 0 ≤ (0 : Int) := (by omega)
                                                have q137 : 0 < (t132.length : Int) := of_decide_eq_true (by first | (with_reducible assumption) | assumption)
                                                obtain ⟨ad137, A137_0, c137_0, e137, hx137_0, hx137_1, hl137_0, hi137_0⟩ := at_T30 (Kd.S_reads' HO_10.out).2.2 0 p137 q137
                                                obtain rfl : ad136 = ad137 := (by injection e137)
                                                obtain ⟨ce137, hce137, hMe137, hcc137⟩ := Kd.S_get HO_10.out z30 0 p137 (by first | exact q137 | exact of_decide_eq_true (by first | (with_reducible assumption) | assumption) | (have e_ := (Kd.S_reads' HO_10.out).1; omega))
                                                obtain ⟨ve137_0, rfl, ge137_0⟩ := k30_openM hMe137
                                                have hv137_0 := hcc137 0 _ rfl
                                                rw [Nat.add_zero] at hv137_0
                                                replace hv137_0 := Option.some.inj (hv137_0.symm.trans hx137_0)
                                                rw [hv137_0] at ge137_0
                                                have HL137_0 := Aside0.mk (show Kd.R (Kd.int .i64) 3 _ _ _ _ ((rd_T30 t132 0).f0) from ge137_0)
                                                clear hv137_0 ge137_0
                                                clear hcc137 hce137
                                                have qi137 : (0 < t132.length) = True := eq_true (by omega)
                                                (try rw [show ((0 : Int)).toNat = 0 from rfl] at hx137_0)
                                                (try rw [show 0 * 2 = 0 from rfl] at hx137_0)
                                                (try rw [Addr.add_zero'] at hx137_0)
                                                (try rw [show ((0 : Int)).toNat = 0 from rfl] at hx137_1)
                                                (try rw [show 0 * 2 = 0 from rfl] at hx137_1)
                                                (try rw [Addr.add_zero'] at hx137_1)
                                                have HR137_0 := Aside0.mk hi137_0
                                                have HC137_0 := Aside0.mk hl137_0
                                                clear hi137_0 hl137_0
                                                replace p137 := eq_true p137
                                                replace q137 := eq_true q137
                                                have ea_ := Option.some.inj (hx136_0.symm.trans hx137_0)
                                                injection ea_ with ea_ en_ ec_
                                                subst ea_
                                                subst ec_
                                                clear en_
                                                have p138 : 0 ≤ (0 : Int) := (by omega)
                                                have q138 : 0 < (((rd_T30 t132 0).f0).length : Int) := of_decide_eq_true (by first | (with_reducible assumption) | assumption)
                                                obtain ⟨ad138, e138, hx138_0⟩ := Kd.at_int (by repeat (first | (with_reducible exact HR137_0.out) | (with_reducible refine Kd.C_alloc ?_ _) | (with_reducible refine Kd.C_drewN ?_ _) | (with_reducible refine Kd.C_drew ?_) | exact HR137_0.out)) 0 p138 q138
                                                cases e138
                                                have qi138 : (0 < ((rd_T30 t132 0).f0).length) = True := eq_true (by omega)
                                                (try rw [show ((0 : Int)).toNat = 0 from rfl] at hx138_0)
                                                (try rw [Addr.add_zero'] at hx138_0)
                                                replace p138 := eq_true p138
                                                replace q138 := eq_true q138
                                                have p139 : 0 ≤ (0 : Int) := (by omega)
                                                have q139 : 0 < (t132.length : Int) := of_decide_eq_true (by first | (with_reducible assumption) | assumption)
                                                obtain ⟨ad139, A139_0, c139_0, e139, hx139_0, hx139_1, hl139_0, hi139_0⟩ := at_T30 (Kd.S_reads' HO_10.out).2.2 0 p139 q139
                                                obtain rfl : ad136 = ad139 := (by injection e139)
                                                obtain ⟨ce139, hce139, hMe139, hcc139⟩ := Kd.S_get HO_10.out z30 0 p139 (by first | exact q139 | exact of_decide_eq_true (by first | (with_reducible assumption) | assumption) | (have e_ := (Kd.S_reads' HO_10.out).1; omega))
                                                obtain ⟨ve139_0, rfl, ge139_0⟩ := k30_openM hMe139
                                                have hv139_0 := hcc139 0 _ rfl
                                                rw [Nat.add_zero] at hv139_0
                                                replace hv139_0 := Option.some.inj (hv139_0.symm.trans hx139_0)
                                                rw [hv139_0] at ge139_0
                                                have HL139_0 := Aside0.mk (show Kd.R (Kd.int .i64) 3 _ _ _ _ ((rd_T30 t132 0).f0) from ge139_0)
                                                clear hv139_0 ge139_0
                                                clear hcc139 hce139
                                                have qi139 : (0 < t132.length) = True := eq_true (by omega)
                                                (try rw [show ((0 : Int)).toNat = 0 from rfl] at hx139_0)
                                                (try rw [show 0 * 2 = 0 from rfl] at hx139_0)
                                                (try rw [Addr.add_zero'] at hx139_0)
                                                (try rw [show ((0 : Int)).toNat = 0 from rfl] at hx139_1)
                                                (try rw [show 0 * 2 = 0 from rfl] at hx139_1)
                                                (try rw [Addr.add_zero'] at hx139_1)
                                                have HR139_0 := Aside0.mk hi139_0
                                                have HC139_0 := Aside0.mk hl139_0
                                                clear hi139_0 hl139_0
                                                replace p139 := eq_true p139
                                                replace q139 := eq_true q139
                                                have ea_ := Option.some.inj (hx136_0.symm.trans hx139_0)
                                                injection ea_ with ea_ en_ ec_
                                                subst ea_
                                                subst ec_
                                                clear en_
                                                have p140 : 0 ≤ (0 : Int) := (by omega)
                                                have q140 : 0 < (((rd_T30 t132 0).f0).length : Int) := of_decide_eq_true (by first | (with_reducible assumption) | assumption)
                                                obtain ⟨ad140, e140, hx140_0⟩ := Kd.at_int (by repeat (first | (with_reducible exact HR139_0.out) | (with_reducible refine Kd.C_alloc ?_ _) | (with_reducible refine Kd.C_drewN ?_ _) | (with_reducible refine Kd.C_drew ?_) | exact HR139_0.out)) 0 p140 q140
                                                cases e140
                                                have qi140 : (0 < ((rd_T30 t132 0).f0).length) = True := eq_true (by omega)
                                                (try rw [show ((0 : Int)).toNat = 0 from rfl] at hx140_0)
                                                (try rw [Addr.add_zero'] at hx140_0)
                                                replace p140 := eq_true p140
                                                replace q140 := eq_true q140
                                                have p141 : 0 ≤ (0 : Int) := (by omega)
                                                have q141 : 0 < (t132.length : Int) := of_decide_eq_true (by first | (with_reducible assumption) | assumption)
                                                obtain ⟨ad141, A141_0, c141_0, e141, hx141_0, hx141_1, hl141_0, hi141_0⟩ := at_T30 (Kd.S_reads' HO_10.out).2.2 0 p141 q141
                                                obtain rfl : ad136 = ad141 := (by injection e141)
                                                obtain ⟨ce141, hce141, hMe141, hcc141⟩ := Kd.S_get HO_10.out z30 0 p141 (by first | exact q141 | exact of_decide_eq_true (by first | (with_reducible assumption) | assumption) | (have e_ := (Kd.S_reads' HO_10.out).1; omega))
                                                obtain ⟨ve141_0, rfl, ge141_0⟩ := k30_openM hMe141
                                                have hv141_0 := hcc141 0 _ rfl
                                                rw [Nat.add_zero] at hv141_0
                                                replace hv141_0 := Option.some.inj (hv141_0.symm.trans hx141_0)
                                                rw [hv141_0] at ge141_0
                                                have HL141_0 := Aside0.mk (show Kd.R (Kd.int .i64) 3 _ _ _ _ ((rd_T30 t132 0).f0) from ge141_0)
                                                clear hv141_0 ge141_0
                                                clear hcc141 hce141
                                                have qi141 : (0 < t132.length) = True := eq_true (by omega)
                                                (try rw [show ((0 : Int)).toNat = 0 from rfl] at hx141_0)
                                                (try rw [show 0 * 2 = 0 from rfl] at hx141_0)
                                                (try rw [Addr.add_zero'] at hx141_0)
                                                (try rw [show ((0 : Int)).toNat = 0 from rfl] at hx141_1)
                                                (try rw [show 0 * 2 = 0 from rfl] at hx141_1)
                                                (try rw [Addr.add_zero'] at hx141_1)
                                                have HR141_0 := Aside0.mk hi141_0
                                                have HC141_0 := Aside0.mk hl141_0
                                                clear hi141_0 hl141_0
                                                replace p141 := eq_true p141
                                                replace q141 := eq_true q141
                                                have ea_ := Option.some.inj (hx136_0.symm.trans hx141_0)
                                                injection ea_ with ea_ en_ ec_
                                                subst ea_
                                                subst ec_
                                                clear en_
                                                have p142 : 0 ≤ (0 : Int) := (by omega)
                                                have q142 : 0 < (((rd_T30 t132 0).f0).length : Int) := of_decide_eq_true (by first | (with_reducible assumption) | assumption)
                                                obtain ⟨ad142, e142, hx142_0⟩ := Kd.at_int (by repeat (first | (with_reducible exact HR141_0.out) | (with_reducible refine Kd.C_alloc ?_ _) | (with_reducible refine Kd.C_drewN ?_ _) | (with_reducible refine Kd.C_drew ?_) | exact HR141_0.out)) 0 p142 q142
                                                cases e142
                                                have qi142 : (0 < ((rd_T30 t132 0).f0).length) = True := eq_true (by omega)
                                                (try rw [show ((0 : Int)).toNat = 0 from rfl] at hx142_0)
                                                (try rw [Addr.add_zero'] at hx142_0)
                                                replace p142 := eq_true p142
                                                replace q142 := eq_true q142
                                                obtain ⟨Ao39, co39, eo39⟩ := Kd.R_slice HO_7.out
                                                subst eo39
                                                have p143 : 0 ≤ ((rd ((rd_T30 t132 0).f0) 0) : Int) := of_decide_eq_true (by first | (with_reducible assumption) | assumption)
                                                have q143 : (rd ((rd_T30 t132 0).f0) 0) < (x7_3.length : Int) := of_decide_eq_true (by first | (with_reducible assumption) | assumption)
                                                obtain ⟨ad143, e143, hx143_0⟩ := Kd.at_int (Kd.R_reads' HO_7.out).2.2 (rd ((rd_T30 t132 0).f0) 0) p143 q143
                                                cases e143
                                                replace p143 := eq_true p143
                                                replace q143 := eq_true q143
                                                have p37 : 0 ≤ ((rd ((rd_T30 t132 0).f0) 0) : Int) := of_decide_eq_true (by first | (with_reducible assumption) | assumption)
                                                have q37 : ((rd ((rd_T30 t132 0).f0) 0) : Int) < ((x7_3.length : Int) : Int) := of_decide_eq_true (by first | (with_reducible assumption) | assumption)
                                                obtain ⟨go37, co37, eo37, gb37, gl37, cl37, HG37⟩ := Kd.R_form HO_7.out (by omega)
                                                (first | cases eo37 | (injection eo37 with ea_ en_ ec_; (first | subst ea_ | (injection ea_ with ea_; subst ea_)); subst ec_; clear en_))
                                                have GB37 := Aside0.mk gb37
                                                have GG37 := Aside0.mk HG37
                                                clear gb37 gl37 HG37
                                                (first | simp only [add_plain] at hx143_0 | skip)
                                                obtain ⟨hx37_0, hf37_0⟩ := Kd.R_celln 0 HO_7.out ((rd ((rd_T30 t132 0).f0) 0) : Int) p37 q37
                                                replace p37 := eq_true p37
                                                replace q37 := eq_true q37
                                                have HP40 := Kd.R_putg HO_7.out ((rd ((rd_T30 t132 0).f0) 0) : Int) (wrap64 ((rd x7_3 (rd ((rd_T30 t132 0).f0) 0)) + 1))
                                                go_wp2_with (first | ((with_reducible refine gate_store (t := 3) (p := 97) rfl ?_); refine store_event (t := 3) (p := 97) (v := ?vo_w41) (w1 := (wc.setCell ⟨go37, ((rd ((rd_T30 t132 0).f0) 0) : Int).toNat, none⟩ (.int .i64 (wrap64 ((rd x7_3 (rd ((rd_T30 t132 0).f0) 0)) + 1))))) ?hg ?ho ?hn ?hr ?_; (case ho => rfl); (case hg => rfl); (case hn => rfl); (case hr => first | (go_simp; done) | (go_simp; rfl)); intro w41 hw; have hg : wc.grownBy w41 (some go37) := (by rw [hw]; exact HP40.2); have hp_ : Kd.R (Kd.int .i64) 3 w41 w.heap.size (fun _ => True) (.slice (some ⟨go37, 0, none⟩) x7_3.length co39) y144 := (by rw [hw, Ny144.out]; exact HP40.1); clear HP40; have n0_ := Aside0.mk (hp_); have n1_ := Aside0.mk (Kd.S_after (v := (.slice (some ⟨go37, 0, none⟩) x7_3.length co39)) (v1 := (.slice (some ⟨go37, 0, none⟩) x7_3.length co39)) (ok := (fun _ => True)) (by (with_reducible repeat (first | apply Kd.S_alloc | apply Kd.S_drewN | apply Kd.S_drew)); exact Kd.S_mono HO_10.out (fun _ hk => ⟨trivial, hk⟩)) hg (.inl rfl)); have n2_ := Aside0.mk (Kd.R_after (v := (.slice (some ⟨go37, 0, none⟩) x7_3.length co39)) (v1 := (.slice (some ⟨go37, 0, none⟩) x7_3.length co39)) (ok := (fun k_ => some k_ ≠ (.slice (some ad136) t132.length co38 : Value).ownBlock)) (by (with_reducible repeat (first | apply Kd.R_alloc | apply Kd.R_drewN | apply Kd.R_drew)); exact Kd.R_mono HL136_0.out (fun _ hk => ⟨hk.2, hk.1⟩)) hg (.inl rfl)); have n3_ := Aside0.mk (Kd.R_after (v := (.slice (some ⟨go37, 0, none⟩) x7_3.length co39)) (v1 := (.slice (some ⟨go37, 0, none⟩) x7_3.length co39)) (ok := (fun k_ => some k_ ≠ (.slice (some ad136) t132.length co38 : Value).ownBlock)) (by (with_reducible repeat (first | apply Kd.R_alloc | apply Kd.R_drewN | apply Kd.R_drew)); exact Kd.R_mono HL137_0.out (fun _ hk => ⟨hk.2, hk.1⟩)) hg (.inl rfl)); have n4_ := Aside0.mk (Kd.R_after (v := (.slice (some ⟨go37, 0, none⟩) x7_3.length co39)) (v1 := (.slice (some ⟨go37, 0, none⟩) x7_3.length co39)) (ok := (fun k_ => some k_ ≠ (.slice (some ad136) t132.length co38 : Value).ownBlock)) (by (with_reducible repeat (first | apply Kd.R_alloc | apply Kd.R_drewN | apply Kd.R_drew)); exact Kd.R_mono HL139_0.out (fun _ hk => ⟨hk.2, hk.1⟩)) hg (.inl rfl)); have n5_ := Aside0.mk (Kd.R_after (v := (.slice (some ⟨go37, 0, none⟩) x7_3.length co39)) (v1 := (.slice (some ⟨go37, 0, none⟩) x7_3.length co39)) (ok := (fun k_ => some k_ ≠ (.slice (some ad136) t132.length co38 : Value).ownBlock)) (by (with_reducible repeat (first | apply Kd.R_alloc | apply Kd.R_drewN | apply Kd.R_drew)); exact Kd.R_mono HL141_0.out (fun _ hk => ⟨hk.2, hk.1⟩)) hg (.inl rfl)); have n6_ := Aside0.mk ((by rw [hw]; exact below_set (HB.out) GB37.out : Below w.heap.size w w41)); clear HO_7; clear HO_10; clear HL136_0; clear HL137_0; clear HL139_0; clear HL141_0; clear HB; have HO_7 := n0_; have HO_10 := n1_; have HL136_0 := n2_; have HL137_0 := n3_; have HL139_0 := n4_; have HL141_0 := n5_; have HB := n6_; clear n0_ n1_ n2_ n3_ n4_ n5_ n6_; clear hg hw hp_))
                                                go_roundg kj18
                                                case measure => have := HJ4.out; have := HK2.out; have := HK3.out; have := HJ18.out; omega
                                                case rel => exact ⟨(y144), (wrap64 (x8_3 + 1)), (wrap64 (x9_3 + 1)), (by first | rfl | (simp; done) | (simp [*]; done)), (by first | rfl | (simp; done) | (simp [*]; done)), H', ⟨by have := HJ4.out; have := HK2.out; have := HK3.out; have := HJ18.out; omega⟩, ⟨by (with_reducible repeat (first | apply Kd.R_alloc | apply Kd.R_drewN | apply Kd.R_drew)); exact HO_7.out⟩, ⟨by repeat (first | (with_reducible first | exact HB.out | apply below_alloc | apply pw_below_drewN | apply below_drew1) | exact HB.out)⟩⟩
                                              · rw [if_neg c36] at H
                                                exact absurd H (by simp)
                                            · rw [if_neg c35] at H
                                              exact absurd H (by simp)
                                      · rw [if_neg c30] at H
                                        exact absurd H (by simp)
                                    · rw [if_neg c29] at H
                                      have c29b0 : ((((rd_T30 t132 0).f0).length : Int) == 1) = false := beq_eq_false_iff_ne.mpr c29
                                      have c29b1 : ((((rd_T30 t132 0).f0).length : Int) != 1) = true := bne_iff_ne.mpr c29
                                      obtain rfl := Option.some.inj H
                                      obtain ⟨Ao42, co42, eo42⟩ := Kd.S_slice HO_10.out
                                      subst eo42
                                      have p136 : 0 ≤ (0 : Int) := (by omega)
                                      have q136 : 0 < (t132.length : Int) := of_decide_eq_true (by first | (with_reducible assumption) | assumption)
                                      obtain ⟨ad136, A136_0, c136_0, e136, hx136_0, hx136_1, hl136_0, hi136_0⟩ := at_T30 (Kd.S_reads' HO_10.out).2.2 0 p136 q136
                                      cases e136
                                      obtain ⟨ce136, hce136, hMe136, hcc136⟩ := Kd.S_get HO_10.out z30 0 p136 (by first | exact q136 | exact of_decide_eq_true (by first | (with_reducible assumption) | assumption) | (have e_ := (Kd.S_reads' HO_10.out).1; omega))
                                      obtain ⟨ve136_0, rfl, ge136_0⟩ := k30_openM hMe136
                                      have hv136_0 := hcc136 0 _ rfl
                                      rw [Nat.add_zero] at hv136_0
                                      replace hv136_0 := Option.some.inj (hv136_0.symm.trans hx136_0)
                                      rw [hv136_0] at ge136_0
                                      have HL136_0 := Aside0.mk (show Kd.R (Kd.int .i64) 3 _ _ _ _ ((rd_T30 t132 0).f0) from ge136_0)
                                      clear hv136_0 ge136_0
                                      clear hcc136 hce136
                                      have qi136 : (0 < t132.length) = True := eq_true (by omega)
                                      (try rw [show ((0 : Int)).toNat = 0 from rfl] at hx136_0)
                                      (try rw [show 0 * 2 = 0 from rfl] at hx136_0)
                                      (try rw [Addr.add_zero'] at hx136_0)
                                      (try rw [show ((0 : Int)).toNat = 0 from rfl] at hx136_1)
                                      (try rw [show 0 * 2 = 0 from rfl] at hx136_1)
                                      (try rw [Addr.add_zero'] at hx136_1)
                                      have HR136_0 := Aside0.mk hi136_0
                                      have HC136_0 := Aside0.mk hl136_0
                                      clear hi136_0 hl136_0
                                      replace p136 := eq_true p136
                                      replace q136 := eq_true q136
                                      go_wp2
                                      go_ret
                                      exact ⟨by first | rfl | (simp [errW_none, errW_some] <;> rfl) | (simp [*, errW_none, errW_some] <;> rfl), by repeat (first | (with_reducible first | exact HB.out | apply below_alloc | apply pw_below_drewN | apply below_drew1) | exact HB.out)⟩
                                  · rw [if_neg c28] at H
                                    exact absurd H (by simp)
                        · rw [if_neg c16] at H
                          have c16b0 : decide (x9_3 < x5_2) = false := decide_eq_false c16
                          clear c16
                          have H' := Aside0.mk H
                          clear H
                          obtain ⟨Ao43, co43, eo43⟩ := Kd.R_slice HO_7.out
                          subst eo43
                          go_wp2
                          go_loopg [102] k3 (fun kq v102 w' => ∃ (x102_4 : Int), v102 = .int .i64 x102_4 ∧ Aside0 (hushlaw3_DiceEven.l2 kq a0 x5_2 x8_3 x7_3 (x7_3.length : Int) x102_4 = some r) ∧ Aside0 (kq ≤ k3) ∧ Aside0 (Kd.R (Kd.int .i64) 3 w' w.heap.size (fun _ => True) (.slice Ao43 x7_3.length co43) x7_3) ∧ Aside0 (Below w.heap.size w w'))
                          case atStart => exact ⟨(0), (by first | rfl | (simp; done) | (simp [*]; done)), H', ⟨Nat.le_refl _⟩, ⟨by (with_reducible repeat (first | apply Kd.R_alloc | apply Kd.R_drewN | apply Kd.R_drew)); exact HO_7.out⟩, ⟨by repeat (first | (with_reducible first | exact HB.out | apply below_alloc | apply pw_below_drewN | apply below_drew1) | exact HB.out)⟩⟩
                          case round =>
                            clear H'
                            try clear c1
                            try clear p1
                            try clear q1
                            try clear hx1
                            try clear qi1
                            try clear c2
                            try clear p2
                            try clear c3
                            try clear p3
                            try clear q3
                            try clear hx3
                            try clear hf3
                            try clear c4
                            try clear p6
                            try clear c7
                            try clear c7b0
                            try clear c8
                            try clear c8b0
                            try clear c9
                            try clear c9b0
                            try clear c10
                            try clear c11
                            try clear c11b0
                            try clear c12
                            try clear c12b0
                            try clear c12b1
                            try clear c13
                            try clear c13b0
                            try clear c13b1
                            try clear p13
                            try clear q13
                            try clear hx13
                            try clear qi13
                            try clear c14
                            try clear p14
                            try clear q14
                            try clear hx14
                            try clear qi14
                            try clear c16
                            try clear c16b0
                            try clear c23
                            try clear c23b0
                            try clear c23b1
                            try clear c25
                            try clear c26
                            try clear c26b0
                            try clear c26b1
                            try clear c26b2
                            try clear c28
                            try clear c28b0
                            try clear c28b1
                            try clear c29
                            try clear c29b0
                            try clear c29b1
                            try clear c30
                            try clear c30b0
                            try clear c30b1
                            try clear c31
                            try clear c31b0
                            try clear c33
                            try clear c33b0
                            try clear c35
                            try clear c35b0
                            try clear c36
                            try clear c36b0
                            try clear p37
                            try clear q37
                            try clear hx37
                            try clear hf37
                            try clear hx136_0
                            try clear hx136_1
                            try clear hx137_0
                            try clear hx137_1
                            try clear hx138_0
                            try clear hx139_0
                            try clear hx139_1
                            try clear hx140_0
                            try clear hx141_0
                            try clear hx141_1
                            try clear hx142_0
                            try clear hx143_0
                            try clear hx37_0
                            try clear p136
                            try clear p137
                            try clear p138
                            try clear p139
                            try clear p140
                            try clear p141
                            try clear p142
                            try clear p143
                            try clear p2
                            try clear p37
                            try clear p6
                            try clear q136
                            try clear q137
                            try clear q138
                            try clear q139
                            try clear q140
                            try clear q141
                            try clear q142
                            try clear q143
                            try clear q37
                            obtain ⟨x102_4, rfl, HA, HK4, HO_100, HB⟩ := hrel
                            cases gk with
                            | zero => exact absurd HA.out (by simp [hushlaw3_DiceEven.l2])
                            | succ k4 =>
                              have H := HA.out
                              clear HA
                              simp only [hushlaw3_DiceEven.l2] at H
                              by_cases c44 : x102_4 < (x7_3.length : Int)
                              · rw [if_pos c44] at H
                                have c44b0 : decide (x102_4 < (x7_3.length : Int)) = true := decide_eq_true c44
                                clear c44
                                by_cases c45 : 0 ≤ x102_4
                                · rw [if_pos c45] at H
                                  have c45b0 : decide (0 ≤ x102_4) = true := decide_eq_true c45
                                  clear c45
                                  by_cases c46 : x102_4 < (x7_3.length : Int)
                                  · rw [if_pos c46] at H
                                    have c46b0 : decide (x102_4 < (x7_3.length : Int)) = true := decide_eq_true c46
                                    clear c46
                                    by_cases c47 : a0 = 0
                                    · rw [if_pos c47] at H
                                      exact absurd H (by simp)
                                    · rw [if_neg c47] at H
                                      have c47b0 : (a0 == 0) = false := beq_eq_false_iff_ne.mpr c47
                                      have c47b1 : (a0 != 0) = true := bne_iff_ne.mpr c47
                                      by_cases c48 : (rd x7_3 x102_4) = (wrap64 (Int.tdiv x5_2 a0))
                                      · rw [if_pos c48] at H
                                        have c48b0 : ((rd x7_3 x102_4) == (wrap64 (Int.tdiv x5_2 a0))) = true := beq_iff_eq.mpr c48
                                        have c48b1 : ((rd x7_3 x102_4) != (wrap64 (Int.tdiv x5_2 a0))) = false := bne_eq_false_iff_eq.mpr c48
                                        clear c48
                                        have H' := Aside0.mk H
                                        clear H
                                        have p145 : 0 ≤ (x102_4 : Int) := of_decide_eq_true (by first | (with_reducible assumption) | assumption)
                                        have q145 : x102_4 < (x7_3.length : Int) := of_decide_eq_true (by first | (with_reducible assumption) | assumption)
                                        obtain ⟨ad145, e145, hx145_0⟩ := Kd.at_int (Kd.R_reads' HO_100.out).2.2 x102_4 p145 q145
                                        cases e145
                                        replace p145 := eq_true p145
                                        replace q145 := eq_true q145
                                        go_wp2
                                        go_roundg k4
                                        case measure => have := HJ4.out; have := HK2.out; have := HK3.out; have := HK4.out; omega
                                        case rel => exact ⟨(wrap64 (x102_4 + 1)), (by first | rfl | (simp; done) | (simp [*]; done)), H', ⟨by have := HJ4.out; have := HK2.out; have := HK3.out; have := HK4.out; omega⟩, ⟨by (with_reducible repeat (first | apply Kd.R_alloc | apply Kd.R_drewN | apply Kd.R_drew)); exact HO_100.out⟩, ⟨by repeat (first | (with_reducible first | exact HB.out | apply below_alloc | apply pw_below_drewN | apply below_drew1) | exact HB.out)⟩⟩
                                      · rw [if_neg c48] at H
                                        have c48b0 : ((rd x7_3 x102_4) == (wrap64 (Int.tdiv x5_2 a0))) = false := beq_eq_false_iff_ne.mpr c48
                                        have c48b1 : ((rd x7_3 x102_4) != (wrap64 (Int.tdiv x5_2 a0))) = true := bne_iff_ne.mpr c48
                                        obtain rfl := Option.some.inj H
                                        have p145 : 0 ≤ (x102_4 : Int) := of_decide_eq_true (by first | (with_reducible assumption) | assumption)
                                        have q145 : x102_4 < (x7_3.length : Int) := of_decide_eq_true (by first | (with_reducible assumption) | assumption)
                                        obtain ⟨ad145, e145, hx145_0⟩ := Kd.at_int (Kd.R_reads' HO_100.out).2.2 x102_4 p145 q145
                                        cases e145
                                        replace p145 := eq_true p145
                                        replace q145 := eq_true q145
                                        go_wp2
                                        go_ret
                                        exact ⟨by first | rfl | (simp [errW_none, errW_some] <;> rfl) | (simp [*, errW_none, errW_some] <;> rfl), by repeat (first | (with_reducible first | exact HB.out | apply below_alloc | apply pw_below_drewN | apply below_drew1) | exact HB.out)⟩
                                  · rw [if_neg c46] at H
                                    exact absurd H (by simp)
                                · rw [if_neg c45] at H
                                  exact absurd H (by simp)
                              · rw [if_neg c44] at H
                                have c44b0 : decide (x102_4 < (x7_3.length : Int)) = false := decide_eq_false c44
                                clear c44
                                obtain rfl := Option.some.inj H
                                go_wp2
                                go_ret
                                exact ⟨by first | rfl | (simp [errW_none, errW_some] <;> rfl) | (simp [*, errW_none, errW_some] <;> rfl), by repeat (first | (with_reducible first | exact HB.out | apply below_alloc | apply pw_below_drewN | apply below_drew1) | exact HB.out)⟩
                  · rw [if_neg c13] at H
                    exact absurd H (by simp)
                · rw [if_neg c12] at H
                  exact absurd H (by simp)
  · replace c4 := Bool.eq_false_iff.mpr c4
    subst c4
    have H1 : (some false) = some r := by rw [if_neg (show ¬ (false = true) by decide)] at H; exact H
    clear H
    have H := H1
    clear H1
    obtain rfl := Option.some.inj H
    go_enter Try.func3, Try.ntmps3
    go_wp2_with (first | ((with_reducible refine gate_callee (f := 7) rfl ?_); refine goesL_ (some 14) rfl rfl Try.func7 (by kernel_rfl) rfl #[] rfl (by (try simp only [List.map_toArray, List.map_cons, List.map_nil]); first | done | rfl | (simp only [List.length_drop, List.length_take]; rfl)) ?_; (with_reducible refine (hushlaw3_alive.calls k  false _ A3.out).mono ?_); rintro e w49 ⟨rfl, hb⟩; refine ⟨_, rfl, ?_⟩; have n0_ := Aside0.mk (below_step (by repeat (first | (with_reducible first | exact HB.out | apply below_alloc | apply pw_below_drewN | apply below_drew1) | exact HB.out)) hb); clear HB; have HB := n0_; clear n0_; (try clear hb); (try clear hb2); (try clear hk); (try clear hi)))
    go_ret
    exact ⟨by first | rfl | (simp [errW_none, errW_some] <;> rfl) | (simp [*, errW_none, errW_some] <;> rfl), by repeat (first | (with_reducible first | exact HB.out | apply below_alloc | apply pw_below_drewN | apply below_drew1) | exact HB.out)⟩

/-- THE PURE STATEMENT of hushlaw3_DiceEven. -/
def hushlaw3_DiceEven.Pure : Prop := ∀ (p0 : Int) (p1 : Int), (Lit.int .i64 p0).wf = true → (Lit.int .i64 p1).wf = true → ∃ k, hushlaw3_DiceEven.f k p0 p1 = some true

end Go.Proofs.Ytcggbpefeahkiaa.PA

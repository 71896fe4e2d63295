/- Functions of the translated program as Lean functions, and what their calls come to: written by this session's own program (wip/xprint.py) over the kit's print. Conditions stand in each theorem. -/
import Derived.Test.YtjehjjpejmdfiaaPAx0
import Derived.Test.YtjehjjpejmdfiaaPAx1
namespace Go.Proofs.Ytjehjjpejmdfiaa.PA
open Go.RowKit Go.Proofs.YtjehjjpejmdfiaaW.PrintWords Go.Proofs.YtjehjjpejmdfiaaW.PrintLast Go.Proofs.YtjehjjpejmdfiaaW.PrintMore
attribute [local go_sem] max2_int min2_int max_two min_two max_three min_three max_four min_four   -- for this text's walks alone
set_option linter.unusedVariables false
set_option linter.unusedSimpArgs false

/-! ### mask_Sum: function 13 -/
mutual
def mask_Sum.j0 : Nat → Int → List Int → List Bool → List (List Int) → Bool → Option (Int × Int)
  | 0, _, _, _, _, _ => none
  | k + 1, x0, x1, x2, x3, x35 => if x35 = true then (some (0, 8)) else (mask_Sum.l0 k x1 x2 x3 x0 0 x1 (x1.length : Int) 0)
def mask_Sum.l0 : Nat → List Int → List Bool → List (List Int) → Int → Int → List Int → Int → Int → Option (Int × Int)
  | 0, _, _, _, _, _, _, _, _ => none
  | k + 1, x1, x2, x3, x11, x12, x37, x38, x39 => if x39 < x38 then (if 0 ≤ x39 then (if x39 < (x37.length : Int) then (if x39 < (x2.length : Int) then (if rdOf false x2 x39 = true then (if x39 < (x3.length : Int) then (if ((rd_L1 x3 x39).length : Int) = (x1.length : Int) then ((mask_ring_holds.f x11 (rd x37 x39)).bind fun t152 => (if t152 = true then (mask_Sum.l1 k x1 x2 x3 x11 (wrap64 (x12 + (rd x37 x39))) x39 x37 x38 x39 (rd_L1 x3 x39) ((rd_L1 x3 x39).length : Int) 0) else (some (0, 3)))) else (some (0, 8))) else (none)) else (mask_Sum.l0 k x1 x2 x3 x11 x12 x37 x38 (wrap64 (x39 + 1)))) else (none)) else (none)) else (none)) else ((mask_ring_mod.f x11 x12).bind fun t148 => (some (t148, 0)))
def mask_Sum.l1 : Nat → List Int → List Bool → List (List Int) → Int → Int → Int → List Int → Int → Int → List Int → Int → Int → Option (Int × Int)
  | 0, _, _, _, _, _, _, _, _, _, _, _, _ => none
  | k + 1, x1, x2, x3, x11, x12, x13, x37, x38, x39, x67, x68, x69 => if x69 < x68 then (if 0 ≤ x69 then (if x69 < (x67.length : Int) then (if x69 < (x2.length : Int) then (if rdOf false x2 x69 = true then (mask_Sum.j3 k x1 x2 x3 x11 x12 x13 x69 (rd x67 x69) x37 x38 x39 x67 x68 x69 true) else (mask_Sum.j3 k x1 x2 x3 x11 x12 x13 x69 (rd x67 x69) x37 x38 x39 x67 x68 x69 (x69 == x13))) else (none)) else (none)) else (none)) else (mask_Sum.l0 k x1 x2 x3 x11 x12 x37 x38 (wrap64 (x39 + 1)))
def mask_Sum.j3 : Nat → List Int → List Bool → List (List Int) → Int → Int → Int → Int → Int → List Int → Int → Int → List Int → Int → Int → Bool → Option (Int × Int)
  | 0, _, _, _, _, _, _, _, _, _, _, _, _, _, _, _ => none
  | k + 1, x1, x2, x3, x11, x12, x13, x15, x16, x37, x38, x39, x67, x68, x69, x82 => if x82 = true then (mask_Sum.l1 k x1 x2 x3 x11 x12 x13 x37 x38 x39 x67 x68 (wrap64 (x69 + 1))) else ((mask_ring_holds.f x11 x16).bind fun t156 => (if t156 = true then (if x15 > x13 then (mask_Sum.l1 k x1 x2 x3 x11 (wrap64 (x12 - x16)) x13 x37 x38 x39 x67 x68 (wrap64 (x69 + 1))) else (mask_Sum.l1 k x1 x2 x3 x11 (wrap64 (x12 + x16)) x13 x37 x38 x39 x67 x68 (wrap64 (x69 + 1)))) else (some (0, 3))))
end
def mask_Sum.f (k : Nat) (a0 : Int) (l1 : List Int) (l2 : List Bool) (l3 : List (List Int)) : Option (Int × Int) := (mask_team.f k a0 (l1.length : Int)).bind fun t147 => (if t147 = 0 then (if (l2.length : Int) = (l1.length : Int) then (mask_Sum.j0 k a0 l1 l2 l3 ((l3.length : Int) != (l1.length : Int))) else (mask_Sum.j0 k a0 l1 l2 l3 true)) else (some (0, t147)))
theorem mask_Sum.mono_l : ∀ k, (∀ y0 y1 y2 y3 y4, LeO (mask_Sum.j0 k y0 y1 y2 y3 y4) (mask_Sum.j0 (k + 1) y0 y1 y2 y3 y4)) ∧ (∀ y0 y1 y2 y3 y4 y5 y6 y7, LeO (mask_Sum.l0 k y0 y1 y2 y3 y4 y5 y6 y7) (mask_Sum.l0 (k + 1) y0 y1 y2 y3 y4 y5 y6 y7)) ∧ (∀ y0 y1 y2 y3 y4 y5 y6 y7 y8 y9 y10 y11, LeO (mask_Sum.l1 k y0 y1 y2 y3 y4 y5 y6 y7 y8 y9 y10 y11) (mask_Sum.l1 (k + 1) y0 y1 y2 y3 y4 y5 y6 y7 y8 y9 y10 y11)) ∧ (∀ y0 y1 y2 y3 y4 y5 y6 y7 y8 y9 y10 y11 y12 y13 y14, LeO (mask_Sum.j3 k y0 y1 y2 y3 y4 y5 y6 y7 y8 y9 y10 y11 y12 y13 y14) (mask_Sum.j3 (k + 1) y0 y1 y2 y3 y4 y5 y6 y7 y8 y9 y10 y11 y12 y13 y14))
  | 0 => ⟨fun _ _ _ _ _ r h => by simp [mask_Sum.j0] at h, fun _ _ _ _ _ _ _ _ r h => by simp [mask_Sum.l0] at h, fun _ _ _ _ _ _ _ _ _ _ _ _ r h => by simp [mask_Sum.l1] at h, fun _ _ _ _ _ _ _ _ _ _ _ _ _ _ _ r h => by simp [mask_Sum.j3] at h⟩
  | k + 1 => by
    obtain ⟨ih0, ih1, ih2, ih3⟩ := mask_Sum.mono_l k
    refine ⟨?_, ?_, ?_, ?_⟩
    · intro y0 y1 y2 y3 y4
      unfold mask_Sum.j0
      repeat' first
      | (with_reducible exact ih0 _ _ _ _ _)
      | (with_reducible exact ih1 _ _ _ _ _ _ _ _)
      | (with_reducible exact ih2 _ _ _ _ _ _ _ _ _ _ _ _)
      | (with_reducible exact ih3 _ _ _ _ _ _ _ _ _ _ _ _ _ _ _)
      | (with_reducible exact mask_team.mono _ _ _)
      | (with_reducible exact LeO.refl _)
      | (with_reducible exact LeO.none _)
      | (with_reducible refine LeO.ite ?_ ?_)
      | (with_reducible refine LeO.bind ?_ (fun _ => ?_))
      | exact ih0 _ _ _ _ _
      | exact ih1 _ _ _ _ _ _ _ _
      | exact ih2 _ _ _ _ _ _ _ _ _ _ _ _
      | exact ih3 _ _ _ _ _ _ _ _ _ _ _ _ _ _ _
      | exact mask_team.mono _ _ _
      | exact LeO.none _
      | refine LeO.ite ?_ ?_
      | refine LeO.bind ?_ (fun _ => ?_)
    · intro y0 y1 y2 y3 y4 y5 y6 y7
      unfold mask_Sum.l0
      repeat' first
      | (with_reducible exact ih0 _ _ _ _ _)
      | (with_reducible exact ih1 _ _ _ _ _ _ _ _)
      | (with_reducible exact ih2 _ _ _ _ _ _ _ _ _ _ _ _)
      | (with_reducible exact ih3 _ _ _ _ _ _ _ _ _ _ _ _ _ _ _)
      | (with_reducible exact mask_team.mono _ _ _)
      | (with_reducible exact LeO.refl _)
      | (with_reducible exact LeO.none _)
      | (with_reducible refine LeO.ite ?_ ?_)
      | (with_reducible refine LeO.bind ?_ (fun _ => ?_))
      | exact ih0 _ _ _ _ _
      | exact ih1 _ _ _ _ _ _ _ _
      | exact ih2 _ _ _ _ _ _ _ _ _ _ _ _
      | exact ih3 _ _ _ _ _ _ _ _ _ _ _ _ _ _ _
      | exact mask_team.mono _ _ _
      | exact LeO.none _
      | refine LeO.ite ?_ ?_
      | refine LeO.bind ?_ (fun _ => ?_)
    · intro y0 y1 y2 y3 y4 y5 y6 y7 y8 y9 y10 y11
      unfold mask_Sum.l1
      repeat' first
      | (with_reducible exact ih0 _ _ _ _ _)
      | (with_reducible exact ih1 _ _ _ _ _ _ _ _)
      | (with_reducible exact ih2 _ _ _ _ _ _ _ _ _ _ _ _)
      | (with_reducible exact ih3 _ _ _ _ _ _ _ _ _ _ _ _ _ _ _)
      | (with_reducible exact mask_team.mono _ _ _)
      | (with_reducible exact LeO.refl _)
      | (with_reducible exact LeO.none _)
      | (with_reducible refine LeO.ite ?_ ?_)
      | (with_reducible refine LeO.bind ?_ (fun _ => ?_))
      | exact ih0 _ _ _ _ _
      | exact ih1 _ _ _ _ _ _ _ _
      | exact ih2 _ _ _ _ _ _ _ _ _ _ _ _
      | exact ih3 _ _ _ _ _ _ _ _ _ _ _ _ _ _ _
      | exact mask_team.mono _ _ _
      | exact LeO.none _
      | refine LeO.ite ?_ ?_
      | refine LeO.bind ?_ (fun _ => ?_)
    · intro y0 y1 y2 y3 y4 y5 y6 y7 y8 y9 y10 y11 y12 y13 y14
      unfold mask_Sum.j3
      repeat' first
      | (with_reducible exact ih0 _ _ _ _ _)
      | (with_reducible exact ih1 _ _ _ _ _ _ _ _)
      | (with_reducible exact ih2 _ _ _ _ _ _ _ _ _ _ _ _)
      | (with_reducible exact ih3 _ _ _ _ _ _ _ _ _ _ _ _ _ _ _)
      | (with_reducible exact mask_team.mono _ _ _)
      | (with_reducible exact LeO.refl _)
      | (with_reducible exact LeO.none _)
      | (with_reducible refine LeO.ite ?_ ?_)
      | (with_reducible refine LeO.bind ?_ (fun _ => ?_))
      | exact ih0 _ _ _ _ _
      | exact ih1 _ _ _ _ _ _ _ _
      | exact ih2 _ _ _ _ _ _ _ _ _ _ _ _
      | exact ih3 _ _ _ _ _ _ _ _ _ _ _ _ _ _ _
      | exact mask_team.mono _ _ _
      | exact LeO.none _
      | refine LeO.ite ?_ ?_
      | refine LeO.bind ?_ (fun _ => ?_)
theorem mask_Sum.mono : ∀ a0 a1 a2 a3 k, LeO (mask_Sum.f k a0 a1 a2 a3) (mask_Sum.f (k + 1) a0 a1 a2 a3) := by
  intro a0 a1 a2 a3 k
  obtain ⟨ih0, ih1, ih2, ih3⟩ := mask_Sum.mono_l k
  unfold mask_Sum.f
  repeat' first
      | (with_reducible exact ih0 _ _ _ _ _)
      | (with_reducible exact ih1 _ _ _ _ _ _ _ _)
      | (with_reducible exact ih2 _ _ _ _ _ _ _ _ _ _ _ _)
      | (with_reducible exact ih3 _ _ _ _ _ _ _ _ _ _ _ _ _ _ _)
      | (with_reducible exact mask_team.mono _ _ _)
      | (with_reducible exact LeO.refl _)
      | (with_reducible exact LeO.none _)
      | (with_reducible refine LeO.ite ?_ ?_)
      | (with_reducible refine LeO.bind ?_ (fun _ => ?_))
      | exact ih0 _ _ _ _ _
      | exact ih1 _ _ _ _ _ _ _ _
      | exact ih2 _ _ _ _ _ _ _ _ _ _ _ _
      | exact ih3 _ _ _ _ _ _ _ _ _ _ _ _ _ _ _
      | exact mask_team.mono _ _ _
      | exact LeO.none _
      | refine LeO.ite ?_ ?_
      | refine LeO.bind ?_ (fun _ => ?_)
set_option maxHeartbeats 8000000 in
set_option maxRecDepth 100000 in
theorem mask_Sum.calls (k : Nat) (a0 : Int) (A1 : Option Addr) (c1 : Nat) (l1 : List Int) (A2 : Option Addr) (c2 : Nat) (l2 : List Bool) (A3 : Option Addr) (c3 : Nat) (l3 : List (List Int)) (r1 : Int) (r2 : Int) (w : World) (hr1 : Kd.C (Kd.int .i64) w A1 l1.length l1) (hc1 : l1.length ≤ c1) (hr2 : Kd.C Kd.bool w A2 l2.length l2) (hc2 : l2.length ≤ c2) (hr3 : Kd.C (Kd.slice 3 (Kd.int .i64)) w A3 l3.length l3) (hc3 : l3.length ≤ c3) (h : mask_Sum.f k a0 l1 l2 l3 = some (r1, r2)) :
    Calls Try.prog 13 #[.int .i64 a0, .slice A1 l1.length c1, .slice A2 l2.length c2, .slice A3 l3.length c3] w fun e w' => e = .returned (.tuple #[.int .i64 r1, .int .i64 r2]) ∧ Drawn0 w w' := by
  have HR1 := Aside0.mk hr1
  have HC1 := Aside0.mk hc1
  clear hr1 hc1
  have HR2 := Aside0.mk hr2
  have HC2 := Aside0.mk hc2
  clear hr2 hc2
  have HR3 := Aside0.mk hr3
  have HC3 := Aside0.mk hc3
  clear hr3 hc3
  have H : ((mask_team.f k a0 (l1.length : Int)).bind fun t147 => (if t147 = 0 then (if (l2.length : Int) = (l1.length : Int) then (mask_Sum.j0 k a0 l1 l2 l3 ((l3.length : Int) != (l1.length : Int))) else (mask_Sum.j0 k a0 l1 l2 l3 true)) else (some (0, t147)))) = some (r1, r2) := h
  clear h
  replace H := Option.bind_eq_some_iff.mp H
  obtain ⟨t147, A50, H⟩ := H
  replace H : (if t147 = 0 then (if (l2.length : Int) = (l1.length : Int) then (mask_Sum.j0 k a0 l1 l2 l3 ((l3.length : Int) != (l1.length : Int))) else (mask_Sum.j0 k a0 l1 l2 l3 true)) else (some (0, t147))) = some (r1, r2) := H
  have A5 := Aside0.mk A50
  clear A50
  by_cases c6 : t147 = 0
  · rw [if_pos c6] at H
    have c6b0 : (t147 == 0) = true := beq_iff_eq.mpr c6
    have c6b1 : (t147 != 0) = false := bne_eq_false_iff_eq.mpr c6
    clear c6
    have HC7 := Aside0.mk H
    clear H
    go_enter Try.func13, Try.ntmps13
    go_upto_region 4 with (first | ((with_reducible refine gate_callee (f := 15) rfl ?_); refine goesL_ (some 20) rfl rfl Try.func15 (by kernel_rfl) rfl #[.int .i64 a0, .int .i64 (l1.length : Int)] rfl (by (try simp only [List.map_toArray, List.map_cons, List.map_nil]); first | done | rfl | (simp only [List.length_drop, List.length_take]; rfl)) ?_; (with_reducible refine (mask_team.calls k a0 (l1.length : Int) t147 _ A5.out).mono ?_); rintro e w' ⟨rfl, ⟨nd, rfl⟩⟩; refine ⟨_, rfl, ?_⟩))
    (try simp only [Act.put, List.setIfInBounds_toArray, List.set_cons_zero, List.set_cons_succ])
    go_cut [35] (fun v35 wc => ∃ (kq : Nat) (x35_6 : Bool), v35 = .bool x35_6 ∧ Aside0 (mask_Sum.j0 kq a0 l1 l2 l3 x35_6 = some (r1, r2)) ∧ Aside0 (kq ≤ k) ∧ Drawn0 w wc)
    case first =>
      have H := HC7.out
      clear HC7
      by_cases c8 : (l2.length : Int) = (l1.length : Int)
      · rw [if_pos c8] at H
        have c8b0 : ((l2.length : Int) == (l1.length : Int)) = true := beq_iff_eq.mpr c8
        have c8b1 : ((l2.length : Int) != (l1.length : Int)) = false := bne_eq_false_iff_eq.mpr c8
        have c8b2 : (l2.length == l1.length) = true := by first | simpa using c8 | (simp at c8 ⊢; omega)
        clear c8
        (first | rw [c8b0] | (simp only [i64_w, i32_w]; rw [c8b0]) | skip)
        have H' := Aside0.mk H
        clear H
        go_wp2
        go_meet
        case rel => exact ⟨_, (((l3.length : Int) != (l1.length : Int))), (by first | rfl | (simp; done) | (simp [*]; done)), H', ⟨by first | omega | exact Nat.le_refl _⟩, by repeat (first | exact Drawn0.refl _ | apply Drawn0.step)⟩
      · rw [if_neg c8] at H
        have c8b0 : ((l2.length : Int) == (l1.length : Int)) = false := beq_eq_false_iff_ne.mpr c8
        have c8b1 : ((l2.length : Int) != (l1.length : Int)) = true := bne_iff_ne.mpr c8
        have c8b2 : (l2.length == l1.length) = false := by first | simpa using c8 | (simp at c8 ⊢; omega)
        (first | rw [c8b0] | (simp only [i64_w, i32_w]; rw [c8b0]) | skip)
        have H' := Aside0.mk H
        clear H
        go_wp2
        go_meet
        case rel => exact ⟨_, (true), (by first | rfl | (simp; done) | (simp [*]; done)), H', ⟨by first | omega | exact Nat.le_refl _⟩, by repeat (first | exact Drawn0.refl _ | apply Drawn0.step)⟩
    case rest =>
      clear HC7
      try clear c1
      try clear c2
      try clear p2
      try clear c3
      try clear c6
      try clear c6b0
      try clear c6b1
      try clear c8
      try clear c8b0
      try clear c8b1
      try clear c8b2
      obtain ⟨kq, x35_6, rfl, HA, HJ6, ⟨mc6, rfl⟩⟩ := hcut
      cases kq with
      | zero => exact absurd HA.out (by simp [mask_Sum.j0])
      | succ kj6 =>
        have H := HA.out
        clear HA
        simp only [mask_Sum.j0] at H
        by_cases c9 : x35_6 = true
        · subst c9
          have H1 : (some (0, 8)) = some (r1, r2) := by rw [if_pos rfl] at H; exact H
          clear H
          have H := H1
          clear H1
          simp only [Option.some.injEq, Prod.mk.injEq] at H
          obtain ⟨rfl, rfl⟩ := H
          go_wp2
          go_ret2
          exact ⟨by first | rfl | (simp; done) | (simp [*]; done), by repeat (first | exact Drawn0.refl _ | apply Drawn0.step)⟩
        · replace c9 := Bool.eq_false_iff.mpr c9
          subst c9
          have H1 : (mask_Sum.l0 kj6 l1 l2 l3 a0 0 l1 (l1.length : Int) 0) = some (r1, r2) := by rw [if_neg (show ¬ (false = true) by decide)] at H; exact H
          clear H
          have H := H1
          clear H1
          have H' := Aside0.mk H
          clear H
          go_wp2
          go_loopg [12, 39] kj6 (fun kq v12 v39 w' => ∃ (x12_2 : Int) (x39_2 : Int), v12 = .int .i64 x12_2 ∧ v39 = .int .i64 x39_2 ∧ Aside0 (mask_Sum.l0 kq l1 l2 l3 a0 x12_2 l1 (l1.length : Int) x39_2 = some (r1, r2)) ∧ Aside0 (kq ≤ kj6) ∧ Drawn0 w w')
          case atStart => exact ⟨(0), (0), (by first | rfl | (simp; done) | (simp [*]; done)), (by first | rfl | (simp; done) | (simp [*]; done)), H', ⟨Nat.le_refl _⟩, by repeat (first | exact Drawn0.refl _ | apply Drawn0.step)⟩
          case round =>
            clear H'
            try clear c1
            try clear c2
            try clear p2
            try clear c3
            try clear c6
            try clear c6b0
            try clear c6b1
            try clear c8
            try clear c8b0
            try clear c8b1
            try clear c8b2
            try clear c9
            try clear p2
            obtain ⟨x12_2, x39_2, rfl, rfl, HA, HK2, ⟨m2, rfl⟩⟩ := hrel
            cases gk with
            | zero => exact absurd HA.out (by simp [mask_Sum.l0])
            | succ k2 =>
              have H := HA.out
              clear HA
              simp only [mask_Sum.l0] at H
              by_cases c10 : x39_2 < (l1.length : Int)
              · rw [if_pos c10] at H
                have c10b0 : decide (x39_2 < (l1.length : Int)) = true := decide_eq_true c10
                clear c10
                by_cases c11 : 0 ≤ x39_2
                · rw [if_pos c11] at H
                  have c11b0 : decide (0 ≤ x39_2) = true := decide_eq_true c11
                  clear c11
                  by_cases c12 : x39_2 < (l1.length : Int)
                  · rw [if_pos c12] at H
                    have c12b0 : decide (x39_2 < (l1.length : Int)) = true := decide_eq_true c12
                    clear c12
                    by_cases c13 : x39_2 < (l2.length : Int)
                    · rw [if_pos c13] at H
                      have c13b0 : decide (x39_2 < (l2.length : Int)) = true := decide_eq_true c13
                      clear c13
                      obtain ⟨bq14, hbq14⟩ : ∃ b_ : Bool, b_ = (rdOf false l2 x39_2) := ⟨_, rfl⟩
                      replace H : (if bq14 = true then (if x39_2 < (l3.length : Int) then (if ((rd_L1 l3 x39_2).length : Int) = (l1.length : Int) then ((mask_ring_holds.f a0 (rd l1 x39_2)).bind fun t152 => (if t152 = true then (mask_Sum.l1 k2 l1 l2 l3 a0 (wrap64 (x12_2 + (rd l1 x39_2))) x39_2 l1 (l1.length : Int) x39_2 (rd_L1 l3 x39_2) ((rd_L1 l3 x39_2).length : Int) 0) else (some (0, 3)))) else (some (0, 8))) else (none)) else (mask_Sum.l0 k2 l1 l2 l3 a0 x12_2 l1 (l1.length : Int) (wrap64 (x39_2 + 1)))) = some (r1, r2) := by rw [← hbq14] at H; exact H
                      have Nbq14 := Aside0.mk hbq14
                      clear hbq14
                      (try rw [← Nbq14.out])
                      by_cases c15 : bq14 = true
                      · subst c15
                        have H1 : (if x39_2 < (l3.length : Int) then (if ((rd_L1 l3 x39_2).length : Int) = (l1.length : Int) then ((mask_ring_holds.f a0 (rd l1 x39_2)).bind fun t152 => (if t152 = true then (mask_Sum.l1 k2 l1 l2 l3 a0 (wrap64 (x12_2 + (rd l1 x39_2))) x39_2 l1 (l1.length : Int) x39_2 (rd_L1 l3 x39_2) ((rd_L1 l3 x39_2).length : Int) 0) else (some (0, 3)))) else (some (0, 8))) else (none)) = some (r1, r2) := by rw [if_pos rfl] at H; exact H
                        clear H
                        have H := H1
                        clear H1
                        by_cases c16 : x39_2 < (l3.length : Int)
                        · rw [if_pos c16] at H
                          have c16b0 : decide (x39_2 < (l3.length : Int)) = true := decide_eq_true c16
                          clear c16
                          by_cases c17 : ((rd_L1 l3 x39_2).length : Int) = (l1.length : Int)
                          · rw [if_pos c17] at H
                            have c17b0 : (((rd_L1 l3 x39_2).length : Int) == (l1.length : Int)) = true := beq_iff_eq.mpr c17
                            have c17b1 : (((rd_L1 l3 x39_2).length : Int) != (l1.length : Int)) = false := bne_eq_false_iff_eq.mpr c17
                            have c17b2 : ((rd_L1 l3 x39_2).length == l1.length) = true := by first | simpa using c17 | (simp at c17 ⊢; omega)
                            clear c17
                            replace H := Option.bind_eq_some_iff.mp H
                            obtain ⟨t152, A180, H⟩ := H
                            replace H : (if t152 = true then (mask_Sum.l1 k2 l1 l2 l3 a0 (wrap64 (x12_2 + (rd l1 x39_2))) x39_2 l1 (l1.length : Int) x39_2 (rd_L1 l3 x39_2) ((rd_L1 l3 x39_2).length : Int) 0) else (some (0, 3))) = some (r1, r2) := H
                            have A18 := Aside0.mk A180
                            clear A180
                            by_cases c19 : t152 = true
                            · subst c19
                              have H1 : (mask_Sum.l1 k2 l1 l2 l3 a0 (wrap64 (x12_2 + (rd l1 x39_2))) x39_2 l1 (l1.length : Int) x39_2 (rd_L1 l3 x39_2) ((rd_L1 l3 x39_2).length : Int) 0) = some (r1, r2) := by rw [if_pos rfl] at H; exact H
                              clear H
                              have H := H1
                              clear H1
                              have H' := Aside0.mk H
                              clear H
                              have p149 : 0 ≤ (x39_2 : Int) := of_decide_eq_true (by first | (with_reducible assumption) | assumption)
                              have q149 : x39_2 < (l1.length : Int) := of_decide_eq_true (by first | (with_reducible assumption) | assumption)
                              obtain ⟨ad149, e149, hx149_0⟩ := Kd.at_int HR1.out x39_2 p149 q149
                              cases e149
                              replace p149 := eq_true p149
                              replace q149 := eq_true q149
                              have p150 : 0 ≤ (x39_2 : Int) := of_decide_eq_true (by first | (with_reducible assumption) | assumption)
                              have q150 : x39_2 < (l2.length : Int) := of_decide_eq_true (by first | (with_reducible assumption) | assumption)
                              obtain ⟨ad150, e150, hx150_0⟩ := Kd.at_bool HR2.out x39_2 p150 q150
                              (try rw [← Nbq14.out] at hx150_0)
                              cases e150
                              replace p150 := eq_true p150
                              replace q150 := eq_true q150
                              have p151 : 0 ≤ (x39_2 : Int) := of_decide_eq_true (by first | (with_reducible assumption) | assumption)
                              have q151 : x39_2 < (l3.length : Int) := of_decide_eq_true (by first | (with_reducible assumption) | assumption)
                              obtain ⟨ad151, A151_0, c151_0, e151, hx151_0, hl151_0, hi151_0⟩ := at_L1 HR3.out x39_2 p151 q151
                              cases e151
                              have HR151_0 := Aside0.mk hi151_0
                              have HC151_0 := Aside0.mk hl151_0
                              clear hi151_0 hl151_0
                              replace p151 := eq_true p151
                              replace q151 := eq_true q151
                              go_wp2_with (first | ((with_reducible refine gate_callee (f := 16) rfl ?_); refine goesL_ (some 59) rfl rfl Try.func16 (by kernel_rfl) rfl #[.int .i64 a0, .int .i64 (rd l1 x39_2)] rfl (by (try simp only [List.map_toArray, List.map_cons, List.map_nil]); first | done | rfl | (simp only [List.length_drop, List.length_take]; rfl)) ?_; (with_reducible refine (mask_ring_holds.calls a0 (rd l1 x39_2) true _ A18.out).mono ?_); rintro e w' ⟨rfl, ⟨nd, rfl⟩⟩; refine ⟨_, rfl, ?_⟩; have p153 : 0 ≤ (x39_2 : Int) := of_decide_eq_true (by first | (with_reducible assumption) | assumption); have q153 : x39_2 < (l3.length : Int) := of_decide_eq_true (by first | (with_reducible assumption) | assumption); obtain ⟨ad153, A153_0, c153_0, e153, hx153_0, hl153_0, hi153_0⟩ := at_L1 HR3.out x39_2 p153 q153; obtain rfl : ad151 = ad153 := (by injection e153); have HR153_0 := Aside0.mk hi153_0; have HC153_0 := Aside0.mk hl153_0; clear hi153_0 hl153_0; replace p153 := eq_true p153; replace q153 := eq_true q153; have ea_ := Option.some.inj (hx151_0.symm.trans hx153_0); injection ea_ with ea_ en_ ec_; subst ea_; subst ec_; clear en_))
                              go_loopg [12, 69] k2 (fun kq v12 v69 w' => ∃ (x12_3 : Int) (x69_3 : Int), v12 = .int .i64 x12_3 ∧ v69 = .int .i64 x69_3 ∧ Aside0 (mask_Sum.l1 kq l1 l2 l3 a0 x12_3 x39_2 l1 (l1.length : Int) x39_2 (rd_L1 l3 x39_2) ((rd_L1 l3 x39_2).length : Int) x69_3 = some (r1, r2)) ∧ Aside0 (kq ≤ k2) ∧ Drawn0 w w')
                              case atStart => exact ⟨(wrap64 (x12_2 + (rd l1 x39_2))), (0), (by first | rfl | (simp; done) | (simp [*]; done)), (by first | rfl | (simp; done) | (simp [*]; done)), H', ⟨Nat.le_refl _⟩, by repeat (first | exact Drawn0.refl _ | apply Drawn0.step)⟩
                              case round =>
                                clear H'
                                try clear c1
                                try clear p1
                                try clear q1
                                try clear hx1
                                try clear c2
                                try clear p2
                                try clear c3
                                try clear c6
                                try clear c6b0
                                try clear c6b1
                                try clear p6
                                try clear c8
                                try clear c8b0
                                try clear c8b1
                                try clear c8b2
                                try clear c9
                                try clear c10
                                try clear c10b0
                                try clear c11
                                try clear c11b0
                                try clear c12
                                try clear c12b0
                                try clear c13
                                try clear c13b0
                                try clear p14
                                try clear q14
                                try clear hx14
                                try clear c15
                                try clear p15
                                try clear q15
                                try clear hx15
                                try clear c16
                                try clear c16b0
                                try clear c17
                                try clear c17b0
                                try clear c17b1
                                try clear c17b2
                                try clear c19
                                try clear hx149_0
                                try clear hx150_0
                                try clear hx151_0
                                try clear hx153_0
                                try clear p149
                                try clear p150
                                try clear p151
                                try clear p153
                                try clear p2
                                try clear q149
                                try clear q150
                                try clear q151
                                try clear q153
                                obtain ⟨x12_3, x69_3, rfl, rfl, HA, HK3, ⟨m3, rfl⟩⟩ := hrel
                                cases gk with
                                | zero => exact absurd HA.out (by simp [mask_Sum.l1])
                                | succ k3 =>
                                  have H := HA.out
                                  clear HA
                                  simp only [mask_Sum.l1] at H
                                  by_cases c20 : x69_3 < ((rd_L1 l3 x39_2).length : Int)
                                  · rw [if_pos c20] at H
                                    have c20b0 : decide (x69_3 < ((rd_L1 l3 x39_2).length : Int)) = true := decide_eq_true c20
                                    clear c20
                                    by_cases c21 : 0 ≤ x69_3
                                    · rw [if_pos c21] at H
                                      have c21b0 : decide (0 ≤ x69_3) = true := decide_eq_true c21
                                      clear c21
                                      by_cases c22 : x69_3 < ((rd_L1 l3 x39_2).length : Int)
                                      · rw [if_pos c22] at H
                                        have c22b0 : decide (x69_3 < ((rd_L1 l3 x39_2).length : Int)) = true := decide_eq_true c22
                                        clear c22
                                        have HC23 := Aside0.mk H
                                        clear H
                                        have p154 : 0 ≤ (x69_3 : Int) := of_decide_eq_true (by first | (with_reducible assumption) | assumption)
                                        have q154 : x69_3 < ((rd_L1 l3 x39_2).length : Int) := of_decide_eq_true (by first | (with_reducible assumption) | assumption)
                                        obtain ⟨ad154, e154, hx154_0⟩ := Kd.at_int HR153_0.out x69_3 p154 q154
                                        cases e154
                                        replace p154 := eq_true p154
                                        replace q154 := eq_true q154
                                        go_upto_region 20 with (fail)
                                        go_cut [82] (fun v82 wc => ∃ (kq : Nat) (x82_22 : Bool), v82 = .bool x82_22 ∧ Aside0 (mask_Sum.j3 kq l1 l2 l3 a0 x12_3 x39_2 x69_3 (rd (rd_L1 l3 x39_2) x69_3) l1 (l1.length : Int) x39_2 (rd_L1 l3 x39_2) ((rd_L1 l3 x39_2).length : Int) x69_3 x82_22 = some (r1, r2)) ∧ Aside0 (kq ≤ k3) ∧ Drawn0 w wc)
                                        case first =>
                                          have H := HC23.out
                                          clear HC23
                                          by_cases c24 : x69_3 < (l2.length : Int)
                                          · rw [if_pos c24] at H
                                            have c24b0 : decide (x69_3 < (l2.length : Int)) = true := decide_eq_true c24
                                            clear c24
                                            (first | rw [c24b0] | (simp only [i64_w, i32_w]; rw [c24b0]) | skip)
                                            obtain ⟨bq25, hbq25⟩ : ∃ b_ : Bool, b_ = (rdOf false l2 x69_3) := ⟨_, rfl⟩
                                            replace H : (if bq25 = true then (mask_Sum.j3 k3 l1 l2 l3 a0 x12_3 x39_2 x69_3 (rd (rd_L1 l3 x39_2) x69_3) l1 (l1.length : Int) x39_2 (rd_L1 l3 x39_2) ((rd_L1 l3 x39_2).length : Int) x69_3 true) else (mask_Sum.j3 k3 l1 l2 l3 a0 x12_3 x39_2 x69_3 (rd (rd_L1 l3 x39_2) x69_3) l1 (l1.length : Int) x39_2 (rd_L1 l3 x39_2) ((rd_L1 l3 x39_2).length : Int) x69_3 (x69_3 == x39_2))) = some (r1, r2) := by rw [← hbq25] at H; exact H
                                            have Nbq25 := Aside0.mk hbq25
                                            clear hbq25
                                            (try rw [← Nbq25.out])
                                            by_cases c26 : bq25 = true
                                            · subst c26
                                              have H1 : (mask_Sum.j3 k3 l1 l2 l3 a0 x12_3 x39_2 x69_3 (rd (rd_L1 l3 x39_2) x69_3) l1 (l1.length : Int) x39_2 (rd_L1 l3 x39_2) ((rd_L1 l3 x39_2).length : Int) x69_3 true) = some (r1, r2) := by rw [if_pos rfl] at H; exact H
                                              clear H
                                              have H := H1
                                              clear H1
                                              have H' := Aside0.mk H
                                              clear H
                                              have p155 : 0 ≤ (x69_3 : Int) := of_decide_eq_true (by first | (with_reducible assumption) | assumption)
                                              have q155 : x69_3 < (l2.length : Int) := of_decide_eq_true (by first | (with_reducible assumption) | assumption)
                                              obtain ⟨ad155, e155, hx155_0⟩ := Kd.at_bool HR2.out x69_3 p155 q155
                                              (try rw [← Nbq14.out] at hx155_0)
                                              (try rw [← Nbq25.out] at hx155_0)
                                              obtain rfl : ad150 = ad155 := (by injection e155)
                                              replace p155 := eq_true p155
                                              replace q155 := eq_true q155
                                              go_wp2
                                              go_meet
                                              case rel => exact ⟨_, (true), (by first | rfl | (simp; done) | (simp [*]; done)), H', ⟨by have := HJ6.out; have := HK2.out; have := HK3.out; first | omega | exact Nat.le_refl _⟩, by repeat (first | exact Drawn0.refl _ | apply Drawn0.step)⟩
                                            · replace c26 := Bool.eq_false_iff.mpr c26
                                              subst c26
                                              have H1 : (mask_Sum.j3 k3 l1 l2 l3 a0 x12_3 x39_2 x69_3 (rd (rd_L1 l3 x39_2) x69_3) l1 (l1.length : Int) x39_2 (rd_L1 l3 x39_2) ((rd_L1 l3 x39_2).length : Int) x69_3 (x69_3 == x39_2)) = some (r1, r2) := by rw [if_neg (show ¬ (false = true) by decide)] at H; exact H
                                              clear H
                                              have H := H1
                                              clear H1
                                              have H' := Aside0.mk H
                                              clear H
                                              have p155 : 0 ≤ (x69_3 : Int) := of_decide_eq_true (by first | (with_reducible assumption) | assumption)
                                              have q155 : x69_3 < (l2.length : Int) := of_decide_eq_true (by first | (with_reducible assumption) | assumption)
                                              obtain ⟨ad155, e155, hx155_0⟩ := Kd.at_bool HR2.out x69_3 p155 q155
                                              (try rw [← Nbq14.out] at hx155_0)
                                              (try rw [← Nbq25.out] at hx155_0)
                                              obtain rfl : ad150 = ad155 := (by injection e155)
                                              replace p155 := eq_true p155
                                              replace q155 := eq_true q155
                                              go_wp2
                                              go_meet
                                              case rel => exact ⟨_, ((x69_3 == x39_2)), (by first | rfl | (simp; done) | (simp [*]; done)), H', ⟨by have := HJ6.out; have := HK2.out; have := HK3.out; first | omega | exact Nat.le_refl _⟩, by repeat (first | exact Drawn0.refl _ | apply Drawn0.step)⟩
                                          · rw [if_neg c24] at H
                                            exact absurd H (by simp)
                                        case rest =>
                                          clear HC23
                                          try clear c1
                                          try clear p1
                                          try clear q1
                                          try clear hx1
                                          try clear c2
                                          try clear p2
                                          try clear q2
                                          try clear c3
                                          try clear c6
                                          try clear c6b0
                                          try clear c6b1
                                          try clear p6
                                          try clear c8
                                          try clear c8b0
                                          try clear c8b1
                                          try clear c8b2
                                          try clear c9
                                          try clear c10
                                          try clear c10b0
                                          try clear c11
                                          try clear c11b0
                                          try clear c12
                                          try clear c12b0
                                          try clear c13
                                          try clear c13b0
                                          try clear p14
                                          try clear q14
                                          try clear hx14
                                          try clear c15
                                          try clear p15
                                          try clear q15
                                          try clear hx15
                                          try clear c16
                                          try clear c16b0
                                          try clear c17
                                          try clear c17b0
                                          try clear c17b1
                                          try clear c17b2
                                          try clear c19
                                          try clear c20
                                          try clear c20b0
                                          try clear c21
                                          try clear c21b0
                                          try clear c22
                                          try clear c22b0
                                          try clear c24
                                          try clear c24b0
                                          try clear q25
                                          try clear c26
                                          try clear hx149_0
                                          try clear hx150_0
                                          try clear hx151_0
                                          try clear hx153_0
                                          try clear hx154_0
                                          try clear hx155_0
                                          try clear p1
                                          try clear p14
                                          try clear p149
                                          try clear p15
                                          try clear p150
                                          try clear p151
                                          try clear p153
                                          try clear p154
                                          try clear p155
                                          try clear p2
                                          try clear p6
                                          try clear q1
                                          try clear q14
                                          try clear q149
                                          try clear q15
                                          try clear q150
                                          try clear q151
                                          try clear q153
                                          try clear q154
                                          try clear q155
                                          obtain ⟨kq, x82_22, rfl, HA, HJ22, ⟨mc22, rfl⟩⟩ := hcut
                                          cases kq with
                                          | zero => exact absurd HA.out (by simp [mask_Sum.j3])
                                          | succ kj22 =>
                                            have H := HA.out
                                            clear HA
                                            simp only [mask_Sum.j3] at H
                                            by_cases c27 : x82_22 = true
                                            · subst c27
                                              have H1 : (mask_Sum.l1 kj22 l1 l2 l3 a0 x12_3 x39_2 l1 (l1.length : Int) x39_2 (rd_L1 l3 x39_2) ((rd_L1 l3 x39_2).length : Int) (wrap64 (x69_3 + 1))) = some (r1, r2) := by rw [if_pos rfl] at H; exact H
                                              clear H
                                              have H := H1
                                              clear H1
                                              have H' := Aside0.mk H
                                              clear H
                                              go_wp2
                                              go_roundg kj22
                                              case measure => have := HJ6.out; have := HK2.out; have := HK3.out; have := HJ22.out; omega
                                              case rel => exact ⟨(x12_3), (wrap64 (x69_3 + 1)), (by first | rfl | (simp; done) | (simp [*]; done)), (by first | rfl | (simp; done) | (simp [*]; done)), H', ⟨by have := HJ6.out; have := HK2.out; have := HK3.out; have := HJ22.out; omega⟩, by repeat (first | exact Drawn0.refl _ | apply Drawn0.step)⟩
                                            · replace c27 := Bool.eq_false_iff.mpr c27
                                              subst c27
                                              have H1 : ((mask_ring_holds.f a0 (rd (rd_L1 l3 x39_2) x69_3)).bind fun t156 => (if t156 = true then (if x69_3 > x39_2 then (mask_Sum.l1 kj22 l1 l2 l3 a0 (wrap64 (x12_3 - (rd (rd_L1 l3 x39_2) x69_3))) x39_2 l1 (l1.length : Int) x39_2 (rd_L1 l3 x39_2) ((rd_L1 l3 x39_2).length : Int) (wrap64 (x69_3 + 1))) else (mask_Sum.l1 kj22 l1 l2 l3 a0 (wrap64 (x12_3 + (rd (rd_L1 l3 x39_2) x69_3))) x39_2 l1 (l1.length : Int) x39_2 (rd_L1 l3 x39_2) ((rd_L1 l3 x39_2).length : Int) (wrap64 (x69_3 + 1)))) else (some (0, 3)))) = some (r1, r2) := by rw [if_neg (show ¬ (false = true) by decide)] at H; exact H
                                              clear H
                                              have H := H1
                                              clear H1
                                              replace H := Option.bind_eq_some_iff.mp H
                                              obtain ⟨t156, A280, H⟩ := H
                                              replace H : (if t156 = true then (if x69_3 > x39_2 then (mask_Sum.l1 kj22 l1 l2 l3 a0 (wrap64 (x12_3 - (rd (rd_L1 l3 x39_2) x69_3))) x39_2 l1 (l1.length : Int) x39_2 (rd_L1 l3 x39_2) ((rd_L1 l3 x39_2).length : Int) (wrap64 (x69_3 + 1))) else (mask_Sum.l1 kj22 l1 l2 l3 a0 (wrap64 (x12_3 + (rd (rd_L1 l3 x39_2) x69_3))) x39_2 l1 (l1.length : Int) x39_2 (rd_L1 l3 x39_2) ((rd_L1 l3 x39_2).length : Int) (wrap64 (x69_3 + 1)))) else (some (0, 3))) = some (r1, r2) := H
                                              have A28 := Aside0.mk A280
                                              clear A280
                                              by_cases c29 : t156 = true
                                              · subst c29
                                                have H1 : (if x69_3 > x39_2 then (mask_Sum.l1 kj22 l1 l2 l3 a0 (wrap64 (x12_3 - (rd (rd_L1 l3 x39_2) x69_3))) x39_2 l1 (l1.length : Int) x39_2 (rd_L1 l3 x39_2) ((rd_L1 l3 x39_2).length : Int) (wrap64 (x69_3 + 1))) else (mask_Sum.l1 kj22 l1 l2 l3 a0 (wrap64 (x12_3 + (rd (rd_L1 l3 x39_2) x69_3))) x39_2 l1 (l1.length : Int) x39_2 (rd_L1 l3 x39_2) ((rd_L1 l3 x39_2).length : Int) (wrap64 (x69_3 + 1)))) = some (r1, r2) := by rw [if_pos rfl] at H; exact H
                                                clear H
                                                have H := H1
                                                clear H1
                                                by_cases c30 : x69_3 > x39_2
                                                · rw [if_pos c30] at H
                                                  have c30b0 : decide (x39_2 < x69_3) = true := decide_eq_true c30
                                                  clear c30
                                                  have H' := Aside0.mk H
                                                  clear H
                                                  go_wp2_with (first | ((with_reducible refine gate_callee (f := 16) rfl ?_); refine goesL_ (some 85) rfl rfl Try.func16 (by kernel_rfl) rfl #[.int .i64 a0, .int .i64 (rd (rd_L1 l3 x39_2) x69_3)] rfl (by (try simp only [List.map_toArray, List.map_cons, List.map_nil]); first | done | rfl | (simp only [List.length_drop, List.length_take]; rfl)) ?_; (with_reducible refine (mask_ring_holds.calls a0 (rd (rd_L1 l3 x39_2) x69_3) true _ A28.out).mono ?_); rintro e w' ⟨rfl, ⟨nd, rfl⟩⟩; refine ⟨_, rfl, ?_⟩))
                                                  go_roundg kj22
                                                  case measure => have := HJ6.out; have := HK2.out; have := HK3.out; have := HJ22.out; omega
                                                  case rel => exact ⟨(wrap64 (x12_3 - (rd (rd_L1 l3 x39_2) x69_3))), (wrap64 (x69_3 + 1)), (by first | rfl | (simp; done) | (simp [*]; done)), (by first | rfl | (simp; done) | (simp [*]; done)), H', ⟨by have := HJ6.out; have := HK2.out; have := HK3.out; have := HJ22.out; omega⟩, by repeat (first | exact Drawn0.refl _ | apply Drawn0.step)⟩
                                                · rw [if_neg c30] at H
                                                  have c30b0 : decide (x39_2 < x69_3) = false := decide_eq_false c30
                                                  clear c30
                                                  have H' := Aside0.mk H
                                                  clear H
                                                  go_wp2_with (first | ((with_reducible refine gate_callee (f := 16) rfl ?_); refine goesL_ (some 85) rfl rfl Try.func16 (by kernel_rfl) rfl #[.int .i64 a0, .int .i64 (rd (rd_L1 l3 x39_2) x69_3)] rfl (by (try simp only [List.map_toArray, List.map_cons, List.map_nil]); first | done | rfl | (simp only [List.length_drop, List.length_take]; rfl)) ?_; (with_reducible refine (mask_ring_holds.calls a0 (rd (rd_L1 l3 x39_2) x69_3) true _ A28.out).mono ?_); rintro e w' ⟨rfl, ⟨nd, rfl⟩⟩; refine ⟨_, rfl, ?_⟩))
                                                  go_roundg kj22
                                                  case measure => have := HJ6.out; have := HK2.out; have := HK3.out; have := HJ22.out; omega
                                                  case rel => exact ⟨(wrap64 (x12_3 + (rd (rd_L1 l3 x39_2) x69_3))), (wrap64 (x69_3 + 1)), (by first | rfl | (simp; done) | (simp [*]; done)), (by first | rfl | (simp; done) | (simp [*]; done)), H', ⟨by have := HJ6.out; have := HK2.out; have := HK3.out; have := HJ22.out; omega⟩, by repeat (first | exact Drawn0.refl _ | apply Drawn0.step)⟩
                                              · replace c29 := Bool.eq_false_iff.mpr c29
                                                subst c29
                                                have H1 : (some (0, 3)) = some (r1, r2) := by rw [if_neg (show ¬ (false = true) by decide)] at H; exact H
                                                clear H
                                                have H := H1
                                                clear H1
                                                simp only [Option.some.injEq, Prod.mk.injEq] at H
                                                obtain ⟨rfl, rfl⟩ := H
                                                go_wp2_with (first | ((with_reducible refine gate_callee (f := 16) rfl ?_); refine goesL_ (some 85) rfl rfl Try.func16 (by kernel_rfl) rfl #[.int .i64 a0, .int .i64 (rd (rd_L1 l3 x39_2) x69_3)] rfl (by (try simp only [List.map_toArray, List.map_cons, List.map_nil]); first | done | rfl | (simp only [List.length_drop, List.length_take]; rfl)) ?_; (with_reducible refine (mask_ring_holds.calls a0 (rd (rd_L1 l3 x39_2) x69_3) false _ A28.out).mono ?_); rintro e w' ⟨rfl, ⟨nd, rfl⟩⟩; refine ⟨_, rfl, ?_⟩))
                                                go_ret2
                                                exact ⟨by first | rfl | (simp; done) | (simp [*]; done), by repeat (first | exact Drawn0.refl _ | apply Drawn0.step)⟩
                                      · rw [if_neg c22] at H
                                        exact absurd H (by simp)
                                    · rw [if_neg c21] at H
                                      exact absurd H (by simp)
                                  · rw [if_neg c20] at H
                                    have c20b0 : decide (x69_3 < ((rd_L1 l3 x39_2).length : Int)) = false := decide_eq_false c20
                                    clear c20
                                    have H' := Aside0.mk H
                                    clear H
                                    go_wp2
                                    go_roundg k3
                                    case measure => have := HJ6.out; have := HK2.out; have := HK3.out; omega
                                    case rel => exact ⟨(x12_3), (wrap64 (x39_2 + 1)), (by first | rfl | (simp; done) | (simp [*]; done)), (by first | rfl | (simp; done) | (simp [*]; done)), H', ⟨by have := HJ6.out; have := HK2.out; have := HK3.out; omega⟩, by repeat (first | exact Drawn0.refl _ | apply Drawn0.step)⟩
                            · replace c19 := Bool.eq_false_iff.mpr c19
                              subst c19
                              have H1 : (some (0, 3)) = some (r1, r2) := by rw [if_neg (show ¬ (false = true) by decide)] at H; exact H
                              clear H
                              have H := H1
                              clear H1
                              simp only [Option.some.injEq, Prod.mk.injEq] at H
                              obtain ⟨rfl, rfl⟩ := H
                              have p149 : 0 ≤ (x39_2 : Int) := of_decide_eq_true (by first | (with_reducible assumption) | assumption)
                              have q149 : x39_2 < (l1.length : Int) := of_decide_eq_true (by first | (with_reducible assumption) | assumption)
                              obtain ⟨ad149, e149, hx149_0⟩ := Kd.at_int HR1.out x39_2 p149 q149
                              cases e149
                              replace p149 := eq_true p149
                              replace q149 := eq_true q149
                              have p150 : 0 ≤ (x39_2 : Int) := of_decide_eq_true (by first | (with_reducible assumption) | assumption)
                              have q150 : x39_2 < (l2.length : Int) := of_decide_eq_true (by first | (with_reducible assumption) | assumption)
                              obtain ⟨ad150, e150, hx150_0⟩ := Kd.at_bool HR2.out x39_2 p150 q150
                              (try rw [← Nbq14.out] at hx150_0)
                              cases e150
                              replace p150 := eq_true p150
                              replace q150 := eq_true q150
                              have p151 : 0 ≤ (x39_2 : Int) := of_decide_eq_true (by first | (with_reducible assumption) | assumption)
                              have q151 : x39_2 < (l3.length : Int) := of_decide_eq_true (by first | (with_reducible assumption) | assumption)
                              obtain ⟨ad151, A151_0, c151_0, e151, hx151_0, hl151_0, hi151_0⟩ := at_L1 HR3.out x39_2 p151 q151
                              cases e151
                              have HR151_0 := Aside0.mk hi151_0
                              have HC151_0 := Aside0.mk hl151_0
                              clear hi151_0 hl151_0
                              replace p151 := eq_true p151
                              replace q151 := eq_true q151
                              go_wp2_with (first | ((with_reducible refine gate_callee (f := 16) rfl ?_); refine goesL_ (some 59) rfl rfl Try.func16 (by kernel_rfl) rfl #[.int .i64 a0, .int .i64 (rd l1 x39_2)] rfl (by (try simp only [List.map_toArray, List.map_cons, List.map_nil]); first | done | rfl | (simp only [List.length_drop, List.length_take]; rfl)) ?_; (with_reducible refine (mask_ring_holds.calls a0 (rd l1 x39_2) false _ A18.out).mono ?_); rintro e w' ⟨rfl, ⟨nd, rfl⟩⟩; refine ⟨_, rfl, ?_⟩))
                              go_ret2
                              exact ⟨by first | rfl | (simp; done) | (simp [*]; done), by repeat (first | exact Drawn0.refl _ | apply Drawn0.step)⟩
                          · rw [if_neg c17] at H
                            have c17b0 : (((rd_L1 l3 x39_2).length : Int) == (l1.length : Int)) = false := beq_eq_false_iff_ne.mpr c17
                            have c17b1 : (((rd_L1 l3 x39_2).length : Int) != (l1.length : Int)) = true := bne_iff_ne.mpr c17
                            have c17b2 : ((rd_L1 l3 x39_2).length == l1.length) = false := by first | simpa using c17 | (simp at c17 ⊢; omega)
                            simp only [Option.some.injEq, Prod.mk.injEq] at H
                            obtain ⟨rfl, rfl⟩ := H
                            have p149 : 0 ≤ (x39_2 : Int) := of_decide_eq_true (by first | (with_reducible assumption) | assumption)
                            have q149 : x39_2 < (l1.length : Int) := of_decide_eq_true (by first | (with_reducible assumption) | assumption)
                            obtain ⟨ad149, e149, hx149_0⟩ := Kd.at_int HR1.out x39_2 p149 q149
                            cases e149
                            replace p149 := eq_true p149
                            replace q149 := eq_true q149
                            have p150 : 0 ≤ (x39_2 : Int) := of_decide_eq_true (by first | (with_reducible assumption) | assumption)
                            have q150 : x39_2 < (l2.length : Int) := of_decide_eq_true (by first | (with_reducible assumption) | assumption)
                            obtain ⟨ad150, e150, hx150_0⟩ := Kd.at_bool HR2.out x39_2 p150 q150
                            (try rw [← Nbq14.out] at hx150_0)
                            cases e150
                            replace p150 := eq_true p150
                            replace q150 := eq_true q150
                            have p151 : 0 ≤ (x39_2 : Int) := of_decide_eq_true (by first | (with_reducible assumption) | assumption)
                            have q151 : x39_2 < (l3.length : Int) := of_decide_eq_true (by first | (with_reducible assumption) | assumption)
                            obtain ⟨ad151, A151_0, c151_0, e151, hx151_0, hl151_0, hi151_0⟩ := at_L1 HR3.out x39_2 p151 q151
                            cases e151
                            have HR151_0 := Aside0.mk hi151_0
                            have HC151_0 := Aside0.mk hl151_0
                            clear hi151_0 hl151_0
                            replace p151 := eq_true p151
                            replace q151 := eq_true q151
                            go_wp2
                            go_ret2
                            exact ⟨by first | rfl | (simp; done) | (simp [*]; done), by repeat (first | exact Drawn0.refl _ | apply Drawn0.step)⟩
                        · rw [if_neg c16] at H
                          exact absurd H (by simp)
                      · replace c15 := Bool.eq_false_iff.mpr c15
                        subst c15
                        have H1 : (mask_Sum.l0 k2 l1 l2 l3 a0 x12_2 l1 (l1.length : Int) (wrap64 (x39_2 + 1))) = some (r1, r2) := by rw [if_neg (show ¬ (false = true) by decide)] at H; exact H
                        clear H
                        have H := H1
                        clear H1
                        have H' := Aside0.mk H
                        clear H
                        have p149 : 0 ≤ (x39_2 : Int) := of_decide_eq_true (by first | (with_reducible assumption) | assumption)
                        have q149 : x39_2 < (l1.length : Int) := of_decide_eq_true (by first | (with_reducible assumption) | assumption)
                        obtain ⟨ad149, e149, hx149_0⟩ := Kd.at_int HR1.out x39_2 p149 q149
                        cases e149
                        replace p149 := eq_true p149
                        replace q149 := eq_true q149
                        have p150 : 0 ≤ (x39_2 : Int) := of_decide_eq_true (by first | (with_reducible assumption) | assumption)
                        have q150 : x39_2 < (l2.length : Int) := of_decide_eq_true (by first | (with_reducible assumption) | assumption)
                        obtain ⟨ad150, e150, hx150_0⟩ := Kd.at_bool HR2.out x39_2 p150 q150
                        (try rw [← Nbq14.out] at hx150_0)
                        cases e150
                        replace p150 := eq_true p150
                        replace q150 := eq_true q150
                        go_wp2
                        go_roundg k2
                        case measure => have := HJ6.out; have := HK2.out; omega
                        case rel => exact ⟨(x12_2), (wrap64 (x39_2 + 1)), (by first | rfl | (simp; done) | (simp [*]; done)), (by first | rfl | (simp; done) | (simp [*]; done)), H', ⟨by have := HJ6.out; have := HK2.out; omega⟩, by repeat (first | exact Drawn0.refl _ | apply Drawn0.step)⟩
                    · rw [if_neg c13] at H
                      exact absurd H (by simp)
                  · rw [if_neg c12] at H
                    exact absurd H (by simp)
                · rw [if_neg c11] at H
                  exact absurd H (by simp)
              · rw [if_neg c10] at H
                have c10b0 : decide (x39_2 < (l1.length : Int)) = false := decide_eq_false c10
                clear c10
                replace H := Option.bind_eq_some_iff.mp H
                obtain ⟨t148, A310, H⟩ := H
                replace H : (some (t148, 0)) = some (r1, r2) := H
                have A31 := Aside0.mk A310
                clear A310
                simp only [Option.some.injEq, Prod.mk.injEq] at H
                obtain ⟨rfl, rfl⟩ := H
                go_wp2_with (first | ((with_reducible refine gate_callee (f := 19) rfl ?_); refine goesL_ (some 100) rfl rfl Try.func19 (by kernel_rfl) rfl #[.int .i64 a0, .int .i64 x12_2] rfl (by (try simp only [List.map_toArray, List.map_cons, List.map_nil]); first | done | rfl | (simp only [List.length_drop, List.length_take]; rfl)) ?_; (with_reducible refine (mask_ring_mod.calls a0 x12_2 t148 _ A31.out).mono ?_); rintro e w' ⟨rfl, ⟨nd, rfl⟩⟩; refine ⟨_, rfl, ?_⟩))
                go_ret2
                exact ⟨by first | rfl | (simp; done) | (simp [*]; done), by repeat (first | exact Drawn0.refl _ | apply Drawn0.step)⟩
  · rw [if_neg c6] at H
    have c6b0 : (t147 == 0) = false := beq_eq_false_iff_ne.mpr c6
    have c6b1 : (t147 != 0) = true := bne_iff_ne.mpr c6
    simp only [Option.some.injEq, Prod.mk.injEq] at H
    obtain ⟨rfl, rfl⟩ := H
    go_enter Try.func13, Try.ntmps13
    go_wp2_with (first | ((with_reducible refine gate_callee (f := 15) rfl ?_); refine goesL_ (some 20) rfl rfl Try.func15 (by kernel_rfl) rfl #[.int .i64 a0, .int .i64 (l1.length : Int)] rfl (by (try simp only [List.map_toArray, List.map_cons, List.map_nil]); first | done | rfl | (simp only [List.length_drop, List.length_take]; rfl)) ?_; (with_reducible refine (mask_team.calls k a0 (l1.length : Int) t147 _ A5.out).mono ?_); rintro e w' ⟨rfl, ⟨nd, rfl⟩⟩; refine ⟨_, rfl, ?_⟩))
    go_ret2
    exact ⟨by first | rfl | (simp; done) | (simp [*]; done), by repeat (first | exact Drawn0.refl _ | apply Drawn0.step)⟩

end Go.Proofs.Ytjehjjpejmdfiaa.PA

/- Functions of the translated program as Lean functions, and what their calls come to: written by this session's own program (wip/xprint.py) over the kit's print. Conditions stand in each theorem. -/
import Derived.Test.YtjehjjpejmdfiaaPAx0
import Derived.Test.YtjehjjpejmdfiaaPAx2
import Derived.Test.YtjehjjpejmdfiaaPAx6
namespace Go.Proofs.Ytjehjjpejmdfiaa.PA
open Go.RowKit Go.Proofs.YtjehjjpejmdfiaaW.PrintWords Go.Proofs.YtjehjjpejmdfiaaW.PrintLast Go.Proofs.YtjehjjpejmdfiaaW.PrintMore
attribute [local go_sem] max2_int min2_int max_two min_two max_three min_three max_four min_four   -- for this text's walks alone
set_option linter.unusedVariables false
set_option linter.unusedSimpArgs false

/-! ### hushref12_Sum: function 14 -/
mutual
def hushref12_Sum.j0 : Nat → Int → List Int → List Bool → List (List Int) → Bool → Option (Int × Int)
  | 0, _, _, _, _, _ => none
  | k + 1, x0, x1, x2, x3, x32 => if x32 = true then (some (0, 8)) else (hushref12_Sum.l0 k x0 x1 x2 x3 0 (x1.length : Int) 0)
def hushref12_Sum.l0 : Nat → Int → List Int → List Bool → List (List Int) → Int → Int → Int → Option (Int × Int)
  | 0, _, _, _, _, _, _, _ => none
  | k + 1, x0, x1, x2, x3, x11, x34, x35 => if x35 < x34 then (if 0 ≤ x35 then (if x35 < (x2.length : Int) then (if rdOf false x2 x35 = true then (if x35 < (x3.length : Int) then (if ((rd_L1 x3 x35).length : Int) = (x1.length : Int) then (if x35 < (x1.length : Int) then (if (rd x1 x35) < 0 then (hushref12_Sum.j2 k x0 x1 x2 x3 x11 x35 x34 x35 true) else (hushref12_Sum.j2 k x0 x1 x2 x3 x11 x35 x34 x35 (decide ((rd x1 x35) ≥ x0)))) else (none)) else (some (0, 8))) else (none)) else (hushref12_Sum.l0 k x0 x1 x2 x3 x11 x34 (wrap64 (x35 + 1)))) else (none)) else (none)) else (some (x11, 0))
def hushref12_Sum.j2 : Nat → Int → List Int → List Bool → List (List Int) → Int → Int → Int → Int → Bool → Option (Int × Int)
  | 0, _, _, _, _, _, _, _, _, _ => none
  | k + 1, x0, x1, x2, x3, x11, x12, x34, x35, x63 => if x63 = true then (some (0, 3)) else (if 0 ≤ x12 then (if x12 < (x1.length : Int) then ((hushref12_Mod.f (wrap64 (x11 + (rd x1 x12))) x0).bind fun t163 => (hushref12_Sum.l1 k x0 x1 x2 x3 t163 x12 x34 x35 (x1.length : Int) 0)) else (none)) else (none))
def hushref12_Sum.l1 : Nat → Int → List Int → List Bool → List (List Int) → Int → Int → Int → Int → Int → Int → Option (Int × Int)
  | 0, _, _, _, _, _, _, _, _, _, _ => none
  | k + 1, x0, x1, x2, x3, x11, x12, x34, x35, x73, x74 => if x74 < x73 then (if x74 = x12 then (hushref12_Sum.j4 k x0 x1 x2 x3 x11 x12 x74 x34 x35 x73 x74 true) else (if 0 ≤ x74 then (if x74 < (x2.length : Int) then (hushref12_Sum.j4 k x0 x1 x2 x3 x11 x12 x74 x34 x35 x73 x74 (rdOf false x2 x74)) else (none)) else (none))) else (hushref12_Sum.l0 k x0 x1 x2 x3 x11 x34 (wrap64 (x35 + 1)))
def hushref12_Sum.j4 : Nat → Int → List Int → List Bool → List (List Int) → Int → Int → Int → Int → Int → Int → Int → Bool → Option (Int × Int)
  | 0, _, _, _, _, _, _, _, _, _, _, _, _ => none
  | k + 1, x0, x1, x2, x3, x11, x12, x13, x34, x35, x73, x74, x85 => if x85 = true then (hushref12_Sum.l1 k x0 x1 x2 x3 x11 x12 x34 x35 x73 (wrap64 (x74 + 1))) else (if 0 ≤ x12 then (if x12 < (x3.length : Int) then (if 0 ≤ x13 then (if x13 < ((rd_L1 x3 x12).length : Int) then (if (rd (rd_L1 x3 x12) x13) < 0 then (hushref12_Sum.j5 k x0 x1 x2 x3 x11 x12 x13 x34 x35 x73 x74 true) else (hushref12_Sum.j5 k x0 x1 x2 x3 x11 x12 x13 x34 x35 x73 x74 (decide ((rd (rd_L1 x3 x12) x13) ≥ x0)))) else (none)) else (none)) else (none)) else (none))
def hushref12_Sum.j5 : Nat → Int → List Int → List Bool → List (List Int) → Int → Int → Int → Int → Int → Int → Int → Bool → Option (Int × Int)
  | 0, _, _, _, _, _, _, _, _, _, _, _, _ => none
  | k + 1, x0, x1, x2, x3, x11, x12, x13, x34, x35, x73, x74, x104 => if x104 = true then (some (0, 3)) else (if x13 < x12 then (if 0 ≤ x12 then (if x12 < (x3.length : Int) then (if 0 ≤ x13 then (if x13 < ((rd_L1 x3 x12).length : Int) then ((hushref12_Mod.f (wrap64 (x11 + (rd (rd_L1 x3 x12) x13))) x0).bind fun t171 => (hushref12_Sum.l1 k x0 x1 x2 x3 t171 x12 x34 x35 x73 (wrap64 (x74 + 1)))) else (none)) else (none)) else (none)) else (none)) else (if 0 ≤ x12 then (if x12 < (x3.length : Int) then (if 0 ≤ x13 then (if x13 < ((rd_L1 x3 x12).length : Int) then ((hushref12_Mod.f (wrap64 (x11 - (rd (rd_L1 x3 x12) x13))) x0).bind fun t174 => (hushref12_Sum.l1 k x0 x1 x2 x3 t174 x12 x34 x35 x73 (wrap64 (x74 + 1)))) else (none)) else (none)) else (none)) else (none)))
end
def hushref12_Sum.f (k : Nat) (a0 : Int) (l1 : List Int) (l2 : List Bool) (l3 : List (List Int)) : Option (Int × Int) := (hushref12_team.f k a0 (l1.length : Int)).bind fun t157 => (if t157 = 0 then (if (l2.length : Int) = (l1.length : Int) then (hushref12_Sum.j0 k a0 l1 l2 l3 ((l3.length : Int) != (l1.length : Int))) else (hushref12_Sum.j0 k a0 l1 l2 l3 true)) else (some (0, t157)))
theorem hushref12_Sum.mono_l : ∀ k, (∀ y0 y1 y2 y3 y4, LeO (hushref12_Sum.j0 k y0 y1 y2 y3 y4) (hushref12_Sum.j0 (k + 1) y0 y1 y2 y3 y4)) ∧ (∀ y0 y1 y2 y3 y4 y5 y6, LeO (hushref12_Sum.l0 k y0 y1 y2 y3 y4 y5 y6) (hushref12_Sum.l0 (k + 1) y0 y1 y2 y3 y4 y5 y6)) ∧ (∀ y0 y1 y2 y3 y4 y5 y6 y7 y8, LeO (hushref12_Sum.j2 k y0 y1 y2 y3 y4 y5 y6 y7 y8) (hushref12_Sum.j2 (k + 1) y0 y1 y2 y3 y4 y5 y6 y7 y8)) ∧ (∀ y0 y1 y2 y3 y4 y5 y6 y7 y8 y9, LeO (hushref12_Sum.l1 k y0 y1 y2 y3 y4 y5 y6 y7 y8 y9) (hushref12_Sum.l1 (k + 1) y0 y1 y2 y3 y4 y5 y6 y7 y8 y9)) ∧ (∀ y0 y1 y2 y3 y4 y5 y6 y7 y8 y9 y10 y11, LeO (hushref12_Sum.j4 k y0 y1 y2 y3 y4 y5 y6 y7 y8 y9 y10 y11) (hushref12_Sum.j4 (k + 1) y0 y1 y2 y3 y4 y5 y6 y7 y8 y9 y10 y11)) ∧ (∀ y0 y1 y2 y3 y4 y5 y6 y7 y8 y9 y10 y11, LeO (hushref12_Sum.j5 k y0 y1 y2 y3 y4 y5 y6 y7 y8 y9 y10 y11) (hushref12_Sum.j5 (k + 1) y0 y1 y2 y3 y4 y5 y6 y7 y8 y9 y10 y11))
  | 0 => ⟨fun _ _ _ _ _ r h => by simp [hushref12_Sum.j0] at h, fun _ _ _ _ _ _ _ r h => by simp [hushref12_Sum.l0] at h, fun _ _ _ _ _ _ _ _ _ r h => by simp [hushref12_Sum.j2] at h, fun _ _ _ _ _ _ _ _ _ _ r h => by simp [hushref12_Sum.l1] at h, fun _ _ _ _ _ _ _ _ _ _ _ _ r h => by simp [hushref12_Sum.j4] at h, fun _ _ _ _ _ _ _ _ _ _ _ _ r h => by simp [hushref12_Sum.j5] at h⟩
  | k + 1 => by
    obtain ⟨ih0, ih1, ih2, ih3, ih4, ih5⟩ := hushref12_Sum.mono_l k
    refine ⟨?_, ?_, ?_, ?_, ?_, ?_⟩
    · intro y0 y1 y2 y3 y4
      unfold hushref12_Sum.j0
      repeat' first
      | (with_reducible exact ih0 _ _ _ _ _)
      | (with_reducible exact ih1 _ _ _ _ _ _ _)
      | (with_reducible exact ih2 _ _ _ _ _ _ _ _ _)
      | (with_reducible exact ih3 _ _ _ _ _ _ _ _ _ _)
      | (with_reducible exact ih4 _ _ _ _ _ _ _ _ _ _ _ _)
      | (with_reducible exact ih5 _ _ _ _ _ _ _ _ _ _ _ _)
      | (with_reducible exact hushref12_team.mono _ _ _)
      | (with_reducible exact LeO.refl _)
      | (with_reducible exact LeO.none _)
      | (with_reducible refine LeO.ite ?_ ?_)
      | (with_reducible refine LeO.bind ?_ (fun _ => ?_))
      | exact ih0 _ _ _ _ _
      | exact ih1 _ _ _ _ _ _ _
      | exact ih2 _ _ _ _ _ _ _ _ _
      | exact ih3 _ _ _ _ _ _ _ _ _ _
      | exact ih4 _ _ _ _ _ _ _ _ _ _ _ _
      | exact ih5 _ _ _ _ _ _ _ _ _ _ _ _
      | exact hushref12_team.mono _ _ _
      | exact LeO.none _
      | refine LeO.ite ?_ ?_
      | refine LeO.bind ?_ (fun _ => ?_)
    · intro y0 y1 y2 y3 y4 y5 y6
      unfold hushref12_Sum.l0
      repeat' first
      | (with_reducible exact ih0 _ _ _ _ _)
      | (with_reducible exact ih1 _ _ _ _ _ _ _)
      | (with_reducible exact ih2 _ _ _ _ _ _ _ _ _)
      | (with_reducible exact ih3 _ _ _ _ _ _ _ _ _ _)
      | (with_reducible exact ih4 _ _ _ _ _ _ _ _ _ _ _ _)
      | (with_reducible exact ih5 _ _ _ _ _ _ _ _ _ _ _ _)
      | (with_reducible exact hushref12_team.mono _ _ _)
      | (with_reducible exact LeO.refl _)
      | (with_reducible exact LeO.none _)
      | (with_reducible refine LeO.ite ?_ ?_)
      | (with_reducible refine LeO.bind ?_ (fun _ => ?_))
      | exact ih0 _ _ _ _ _
      | exact ih1 _ _ _ _ _ _ _
      | exact ih2 _ _ _ _ _ _ _ _ _
      | exact ih3 _ _ _ _ _ _ _ _ _ _
      | exact ih4 _ _ _ _ _ _ _ _ _ _ _ _
      | exact ih5 _ _ _ _ _ _ _ _ _ _ _ _
      | exact hushref12_team.mono _ _ _
      | exact LeO.none _
      | refine LeO.ite ?_ ?_
      | refine LeO.bind ?_ (fun _ => ?_)
    · intro y0 y1 y2 y3 y4 y5 y6 y7 y8
      unfold hushref12_Sum.j2
      repeat' first
      | (with_reducible exact ih0 _ _ _ _ _)
      | (with_reducible exact ih1 _ _ _ _ _ _ _)
      | (with_reducible exact ih2 _ _ _ _ _ _ _ _ _)
      | (with_reducible exact ih3 _ _ _ _ _ _ _ _ _ _)
      | (with_reducible exact ih4 _ _ _ _ _ _ _ _ _ _ _ _)
      | (with_reducible exact ih5 _ _ _ _ _ _ _ _ _ _ _ _)
      | (with_reducible exact hushref12_team.mono _ _ _)
      | (with_reducible exact LeO.refl _)
      | (with_reducible exact LeO.none _)
      | (with_reducible refine LeO.ite ?_ ?_)
      | (with_reducible refine LeO.bind ?_ (fun _ => ?_))
      | exact ih0 _ _ _ _ _
      | exact ih1 _ _ _ _ _ _ _
      | exact ih2 _ _ _ _ _ _ _ _ _
      | exact ih3 _ _ _ _ _ _ _ _ _ _
      | exact ih4 _ _ _ _ _ _ _ _ _ _ _ _
      | exact ih5 _ _ _ _ _ _ _ _ _ _ _ _
      | exact hushref12_team.mono _ _ _
      | exact LeO.none _
      | refine LeO.ite ?_ ?_
      | refine LeO.bind ?_ (fun _ => ?_)
    · intro y0 y1 y2 y3 y4 y5 y6 y7 y8 y9
      unfold hushref12_Sum.l1
      repeat' first
      | (with_reducible exact ih0 _ _ _ _ _)
      | (with_reducible exact ih1 _ _ _ _ _ _ _)
      | (with_reducible exact ih2 _ _ _ _ _ _ _ _ _)
      | (with_reducible exact ih3 _ _ _ _ _ _ _ _ _ _)
      | (with_reducible exact ih4 _ _ _ _ _ _ _ _ _ _ _ _)
      | (with_reducible exact ih5 _ _ _ _ _ _ _ _ _ _ _ _)
      | (with_reducible exact hushref12_team.mono _ _ _)
      | (with_reducible exact LeO.refl _)
      | (with_reducible exact LeO.none _)
      | (with_reducible refine LeO.ite ?_ ?_)
      | (with_reducible refine LeO.bind ?_ (fun _ => ?_))
      | exact ih0 _ _ _ _ _
      | exact ih1 _ _ _ _ _ _ _
      | exact ih2 _ _ _ _ _ _ _ _ _
      | exact ih3 _ _ _ _ _ _ _ _ _ _
      | exact ih4 _ _ _ _ _ _ _ _ _ _ _ _
      | exact ih5 _ _ _ _ _ _ _ _ _ _ _ _
      | exact hushref12_team.mono _ _ _
      | exact LeO.none _
      | refine LeO.ite ?_ ?_
      | refine LeO.bind ?_ (fun _ => ?_)
    · intro y0 y1 y2 y3 y4 y5 y6 y7 y8 y9 y10 y11
      unfold hushref12_Sum.j4
      repeat' first
      | (with_reducible exact ih0 _ _ _ _ _)
      | (with_reducible exact ih1 _ _ _ _ _ _ _)
      | (with_reducible exact ih2 _ _ _ _ _ _ _ _ _)
      | (with_reducible exact ih3 _ _ _ _ _ _ _ _ _ _)
      | (with_reducible exact ih4 _ _ _ _ _ _ _ _ _ _ _ _)
      | (with_reducible exact ih5 _ _ _ _ _ _ _ _ _ _ _ _)
      | (with_reducible exact hushref12_team.mono _ _ _)
      | (with_reducible exact LeO.refl _)
      | (with_reducible exact LeO.none _)
      | (with_reducible refine LeO.ite ?_ ?_)
      | (with_reducible refine LeO.bind ?_ (fun _ => ?_))
      | exact ih0 _ _ _ _ _
      | exact ih1 _ _ _ _ _ _ _
      | exact ih2 _ _ _ _ _ _ _ _ _
      | exact ih3 _ _ _ _ _ _ _ _ _ _
      | exact ih4 _ _ _ _ _ _ _ _ _ _ _ _
      | exact ih5 _ _ _ _ _ _ _ _ _ _ _ _
      | exact hushref12_team.mono _ _ _
      | exact LeO.none _
      | refine LeO.ite ?_ ?_
      | refine LeO.bind ?_ (fun _ => ?_)
    · intro y0 y1 y2 y3 y4 y5 y6 y7 y8 y9 y10 y11
      unfold hushref12_Sum.j5
      repeat' first
      | (with_reducible exact ih0 _ _ _ _ _)
      | (with_reducible exact ih1 _ _ _ _ _ _ _)
      | (with_reducible exact ih2 _ _ _ _ _ _ _ _ _)
      | (with_reducible exact ih3 _ _ _ _ _ _ _ _ _ _)
      | (with_reducible exact ih4 _ _ _ _ _ _ _ _ _ _ _ _)
      | (with_reducible exact ih5 _ _ _ _ _ _ _ _ _ _ _ _)
      | (with_reducible exact hushref12_team.mono _ _ _)
      | (with_reducible exact LeO.refl _)
      | (with_reducible exact LeO.none _)
      | (with_reducible refine LeO.ite ?_ ?_)
      | (with_reducible refine LeO.bind ?_ (fun _ => ?_))
      | exact ih0 _ _ _ _ _
      | exact ih1 _ _ _ _ _ _ _
      | exact ih2 _ _ _ _ _ _ _ _ _
      | exact ih3 _ _ _ _ _ _ _ _ _ _
      | exact ih4 _ _ _ _ _ _ _ _ _ _ _ _
      | exact ih5 _ _ _ _ _ _ _ _ _ _ _ _
      | exact hushref12_team.mono _ _ _
      | exact LeO.none _
      | refine LeO.ite ?_ ?_
      | refine LeO.bind ?_ (fun _ => ?_)
theorem hushref12_Sum.mono : ∀ a0 a1 a2 a3 k, LeO (hushref12_Sum.f k a0 a1 a2 a3) (hushref12_Sum.f (k + 1) a0 a1 a2 a3) := by
  intro a0 a1 a2 a3 k
  obtain ⟨ih0, ih1, ih2, ih3, ih4, ih5⟩ := hushref12_Sum.mono_l k
  unfold hushref12_Sum.f
  repeat' first
      | (with_reducible exact ih0 _ _ _ _ _)
      | (with_reducible exact ih1 _ _ _ _ _ _ _)
      | (with_reducible exact ih2 _ _ _ _ _ _ _ _ _)
      | (with_reducible exact ih3 _ _ _ _ _ _ _ _ _ _)
      | (with_reducible exact ih4 _ _ _ _ _ _ _ _ _ _ _ _)
      | (with_reducible exact ih5 _ _ _ _ _ _ _ _ _ _ _ _)
      | (with_reducible exact hushref12_team.mono _ _ _)
      | (with_reducible exact LeO.refl _)
      | (with_reducible exact LeO.none _)
      | (with_reducible refine LeO.ite ?_ ?_)
      | (with_reducible refine LeO.bind ?_ (fun _ => ?_))
      | exact ih0 _ _ _ _ _
      | exact ih1 _ _ _ _ _ _ _
      | exact ih2 _ _ _ _ _ _ _ _ _
      | exact ih3 _ _ _ _ _ _ _ _ _ _
      | exact ih4 _ _ _ _ _ _ _ _ _ _ _ _
      | exact ih5 _ _ _ _ _ _ _ _ _ _ _ _
      | exact hushref12_team.mono _ _ _
      | exact LeO.none _
      | refine LeO.ite ?_ ?_
      | refine LeO.bind ?_ (fun _ => ?_)
set_option maxHeartbeats 8000000 in
set_option maxRecDepth 100000 in
theorem hushref12_Sum.calls (k : Nat) (a0 : Int) (A1 : Option Addr) (c1 : Nat) (l1 : List Int) (A2 : Option Addr) (c2 : Nat) (l2 : List Bool) (A3 : Option Addr) (c3 : Nat) (l3 : List (List Int)) (r1 : Int) (r2 : Int) (w : World) (hr1 : Kd.C (Kd.int .i64) w A1 l1.length l1) (hc1 : l1.length ≤ c1) (hr2 : Kd.C Kd.bool w A2 l2.length l2) (hc2 : l2.length ≤ c2) (hr3 : Kd.C (Kd.slice 3 (Kd.int .i64)) w A3 l3.length l3) (hc3 : l3.length ≤ c3) (h : hushref12_Sum.f k a0 l1 l2 l3 = some (r1, r2)) :
    Calls Try.prog 14 #[.int .i64 a0, .slice A1 l1.length c1, .slice A2 l2.length c2, .slice A3 l3.length c3] w fun e w' => e = .returned (.tuple #[.int .i64 r1, .int .i64 r2]) ∧ Drawn0 w w' := by
  have HR1 := Aside0.mk hr1
  have HC1 := Aside0.mk hc1
  clear hr1 hc1
  have HR2 := Aside0.mk hr2
  have HC2 := Aside0.mk hc2
  clear hr2 hc2
  have HR3 := Aside0.mk hr3
  have HC3 := Aside0.mk hc3
  clear hr3 hc3
  have H : ((hushref12_team.f k a0 (l1.length : Int)).bind fun t157 => (if t157 = 0 then (if (l2.length : Int) = (l1.length : Int) then (hushref12_Sum.j0 k a0 l1 l2 l3 ((l3.length : Int) != (l1.length : Int))) else (hushref12_Sum.j0 k a0 l1 l2 l3 true)) else (some (0, t157)))) = some (r1, r2) := h
  clear h
  replace H := Option.bind_eq_some_iff.mp H
  obtain ⟨t157, A50, H⟩ := H
  replace H : (if t157 = 0 then (if (l2.length : Int) = (l1.length : Int) then (hushref12_Sum.j0 k a0 l1 l2 l3 ((l3.length : Int) != (l1.length : Int))) else (hushref12_Sum.j0 k a0 l1 l2 l3 true)) else (some (0, t157))) = some (r1, r2) := H
  have A5 := Aside0.mk A50
  clear A50
  by_cases c6 : t157 = 0
  · rw [if_pos c6] at H
    have c6b0 : (t157 == 0) = true := beq_iff_eq.mpr c6
    have c6b1 : (t157 != 0) = false := bne_eq_false_iff_eq.mpr c6
    clear c6
    have HC7 := Aside0.mk H
    clear H
    go_enter Try.func14, Try.ntmps14
    go_upto_region 4 with (first | ((with_reducible refine gate_callee (f := 20) rfl ?_); refine goesL_ (some 17) rfl rfl Try.func20 (by kernel_rfl) rfl #[.int .i64 a0, .int .i64 (l1.length : Int)] rfl (by (try simp only [List.map_toArray, List.map_cons, List.map_nil]); first | done | rfl | (simp only [List.length_drop, List.length_take]; rfl)) ?_; (with_reducible refine (hushref12_team.calls k a0 (l1.length : Int) t157 _ A5.out).mono ?_); rintro e w' ⟨rfl, ⟨nd, rfl⟩⟩; refine ⟨_, rfl, ?_⟩))
    (try simp only [Act.put, List.setIfInBounds_toArray, List.set_cons_zero, List.set_cons_succ])
    go_cut [32] (fun v32 wc => ∃ (kq : Nat) (x32_6 : Bool), v32 = .bool x32_6 ∧ Aside0 (hushref12_Sum.j0 kq a0 l1 l2 l3 x32_6 = some (r1, r2)) ∧ Aside0 (kq ≤ k) ∧ Drawn0 w wc)
    case first =>
      have H := HC7.out
      clear HC7
      by_cases c8 : (l2.length : Int) = (l1.length : Int)
      · rw [if_pos c8] at H
        have c8b0 : ((l2.length : Int) == (l1.length : Int)) = true := beq_iff_eq.mpr c8
        have c8b1 : ((l2.length : Int) != (l1.length : Int)) = false := bne_eq_false_iff_eq.mpr c8
        have c8b2 : (l2.length == l1.length) = true := by first | simpa using c8 | (simp at c8 ⊢; omega)
        clear c8
        (first | rw [c8b0] | (simp only [i64_w, i32_w]; rw [c8b0]) | skip)
        have H' := Aside0.mk H
        clear H
        go_wp2
        go_meet
        case rel => exact ⟨_, (((l3.length : Int) != (l1.length : Int))), (by first | rfl | (simp; done) | (simp [*]; done)), H', ⟨by first | omega | exact Nat.le_refl _⟩, by repeat (first | exact Drawn0.refl _ | apply Drawn0.step)⟩
      · rw [if_neg c8] at H
        have c8b0 : ((l2.length : Int) == (l1.length : Int)) = false := beq_eq_false_iff_ne.mpr c8
        have c8b1 : ((l2.length : Int) != (l1.length : Int)) = true := bne_iff_ne.mpr c8
        have c8b2 : (l2.length == l1.length) = false := by first | simpa using c8 | (simp at c8 ⊢; omega)
        (first | rw [c8b0] | (simp only [i64_w, i32_w]; rw [c8b0]) | skip)
        have H' := Aside0.mk H
        clear H
        go_wp2
        go_meet
        case rel => exact ⟨_, (true), (by first | rfl | (simp; done) | (simp [*]; done)), H', ⟨by first | omega | exact Nat.le_refl _⟩, by repeat (first | exact Drawn0.refl _ | apply Drawn0.step)⟩
    case rest =>
      clear HC7
      try clear c1
      try clear c2
      try clear p2
      try clear c3
      try clear c6
      try clear c6b0
      try clear c6b1
      try clear c8
      try clear c8b0
      try clear c8b1
      try clear c8b2
      obtain ⟨kq, x32_6, rfl, HA, HJ6, ⟨mc6, rfl⟩⟩ := hcut
      cases kq with
      | zero => exact absurd HA.out (by simp [hushref12_Sum.j0])
      | succ kj6 =>
        have H := HA.out
        clear HA
        simp only [hushref12_Sum.j0] at H
        by_cases c9 : x32_6 = true
        · subst c9
          have H1 : (some (0, 8)) = some (r1, r2) := by rw [if_pos rfl] at H; exact H
          clear H
          have H := H1
          clear H1
          simp only [Option.some.injEq, Prod.mk.injEq] at H
          obtain ⟨rfl, rfl⟩ := H
          go_wp2
          go_ret2
          exact ⟨by first | rfl | (simp; done) | (simp [*]; done), by repeat (first | exact Drawn0.refl _ | apply Drawn0.step)⟩
        · replace c9 := Bool.eq_false_iff.mpr c9
          subst c9
          have H1 : (hushref12_Sum.l0 kj6 a0 l1 l2 l3 0 (l1.length : Int) 0) = some (r1, r2) := by rw [if_neg (show ¬ (false = true) by decide)] at H; exact H
          clear H
          have H := H1
          clear H1
          have H' := Aside0.mk H
          clear H
          go_wp2
          go_loopg [11, 35] kj6 (fun kq v11 v35 w' => ∃ (x11_2 : Int) (x35_2 : Int), v11 = .int .i64 x11_2 ∧ v35 = .int .i64 x35_2 ∧ Aside0 (hushref12_Sum.l0 kq a0 l1 l2 l3 x11_2 (l1.length : Int) x35_2 = some (r1, r2)) ∧ Aside0 (kq ≤ kj6) ∧ Drawn0 w w')
          case atStart => exact ⟨(0), (0), (by first | rfl | (simp; done) | (simp [*]; done)), (by first | rfl | (simp; done) | (simp [*]; done)), H', ⟨Nat.le_refl _⟩, by repeat (first | exact Drawn0.refl _ | apply Drawn0.step)⟩
          case round =>
            clear H'
            try clear c1
            try clear c2
            try clear p2
            try clear c3
            try clear c6
            try clear c6b0
            try clear c6b1
            try clear c8
            try clear c8b0
            try clear c8b1
            try clear c8b2
            try clear c9
            try clear p2
            obtain ⟨x11_2, x35_2, rfl, rfl, HA, HK2, ⟨m2, rfl⟩⟩ := hrel
            cases gk with
            | zero => exact absurd HA.out (by simp [hushref12_Sum.l0])
            | succ k2 =>
              have H := HA.out
              clear HA
              simp only [hushref12_Sum.l0] at H
              by_cases c10 : x35_2 < (l1.length : Int)
              · rw [if_pos c10] at H
                have c10b0 : decide (x35_2 < (l1.length : Int)) = true := decide_eq_true c10
                clear c10
                by_cases c11 : 0 ≤ x35_2
                · rw [if_pos c11] at H
                  have c11b0 : decide (0 ≤ x35_2) = true := decide_eq_true c11
                  clear c11
                  by_cases c12 : x35_2 < (l2.length : Int)
                  · rw [if_pos c12] at H
                    have c12b0 : decide (x35_2 < (l2.length : Int)) = true := decide_eq_true c12
                    clear c12
                    obtain ⟨bq13, hbq13⟩ : ∃ b_ : Bool, b_ = (rdOf false l2 x35_2) := ⟨_, rfl⟩
                    replace H : (if bq13 = true then (if x35_2 < (l3.length : Int) then (if ((rd_L1 l3 x35_2).length : Int) = (l1.length : Int) then (if x35_2 < (l1.length : Int) then (if (rd l1 x35_2) < 0 then (hushref12_Sum.j2 k2 a0 l1 l2 l3 x11_2 x35_2 (l1.length : Int) x35_2 true) else (hushref12_Sum.j2 k2 a0 l1 l2 l3 x11_2 x35_2 (l1.length : Int) x35_2 (decide ((rd l1 x35_2) ≥ a0)))) else (none)) else (some (0, 8))) else (none)) else (hushref12_Sum.l0 k2 a0 l1 l2 l3 x11_2 (l1.length : Int) (wrap64 (x35_2 + 1)))) = some (r1, r2) := by rw [← hbq13] at H; exact H
                    have Nbq13 := Aside0.mk hbq13
                    clear hbq13
                    (try rw [← Nbq13.out])
                    by_cases c14 : bq13 = true
                    · subst c14
                      have H1 : (if x35_2 < (l3.length : Int) then (if ((rd_L1 l3 x35_2).length : Int) = (l1.length : Int) then (if x35_2 < (l1.length : Int) then (if (rd l1 x35_2) < 0 then (hushref12_Sum.j2 k2 a0 l1 l2 l3 x11_2 x35_2 (l1.length : Int) x35_2 true) else (hushref12_Sum.j2 k2 a0 l1 l2 l3 x11_2 x35_2 (l1.length : Int) x35_2 (decide ((rd l1 x35_2) ≥ a0)))) else (none)) else (some (0, 8))) else (none)) = some (r1, r2) := by rw [if_pos rfl] at H; exact H
                      clear H
                      have H := H1
                      clear H1
                      by_cases c15 : x35_2 < (l3.length : Int)
                      · rw [if_pos c15] at H
                        have c15b0 : decide (x35_2 < (l3.length : Int)) = true := decide_eq_true c15
                        clear c15
                        by_cases c16 : ((rd_L1 l3 x35_2).length : Int) = (l1.length : Int)
                        · rw [if_pos c16] at H
                          have c16b0 : (((rd_L1 l3 x35_2).length : Int) == (l1.length : Int)) = true := beq_iff_eq.mpr c16
                          have c16b1 : (((rd_L1 l3 x35_2).length : Int) != (l1.length : Int)) = false := bne_eq_false_iff_eq.mpr c16
                          have c16b2 : ((rd_L1 l3 x35_2).length == l1.length) = true := by first | simpa using c16 | (simp at c16 ⊢; omega)
                          clear c16
                          have HC17 := Aside0.mk H
                          clear H
                          have p158 : 0 ≤ (x35_2 : Int) := of_decide_eq_true (by first | (with_reducible assumption) | assumption)
                          have q158 : x35_2 < (l2.length : Int) := of_decide_eq_true (by first | (with_reducible assumption) | assumption)
                          obtain ⟨ad158, e158, hx158_0⟩ := Kd.at_bool HR2.out x35_2 p158 q158
                          (try rw [← Nbq13.out] at hx158_0)
                          cases e158
                          replace p158 := eq_true p158
                          replace q158 := eq_true q158
                          have p159 : 0 ≤ (x35_2 : Int) := of_decide_eq_true (by first | (with_reducible assumption) | assumption)
                          have q159 : x35_2 < (l3.length : Int) := of_decide_eq_true (by first | (with_reducible assumption) | assumption)
                          obtain ⟨ad159, A159_0, c159_0, e159, hx159_0, hl159_0, hi159_0⟩ := at_L1 HR3.out x35_2 p159 q159
                          cases e159
                          have HR159_0 := Aside0.mk hi159_0
                          have HC159_0 := Aside0.mk hl159_0
                          clear hi159_0 hl159_0
                          replace p159 := eq_true p159
                          replace q159 := eq_true q159
                          go_upto_region 13 with (fail)
                          go_cut [63] (fun v63 wc => ∃ (kq : Nat) (x63_16 : Bool), v63 = .bool x63_16 ∧ Aside0 (hushref12_Sum.j2 kq a0 l1 l2 l3 x11_2 x35_2 (l1.length : Int) x35_2 x63_16 = some (r1, r2)) ∧ Aside0 (kq ≤ k2) ∧ Drawn0 w wc)
                          case first =>
                            have H := HC17.out
                            clear HC17
                            by_cases c18 : x35_2 < (l1.length : Int)
                            · rw [if_pos c18] at H
                              have c18b0 : decide (x35_2 < (l1.length : Int)) = true := decide_eq_true c18
                              clear c18
                              (first | rw [c18b0] | (simp only [i64_w, i32_w]; rw [c18b0]) | skip)
                              by_cases c19 : (rd l1 x35_2) < 0
                              · rw [if_pos c19] at H
                                have c19b0 : decide ((rd l1 x35_2) < 0) = true := decide_eq_true c19
                                clear c19
                                have H' := Aside0.mk H
                                clear H
                                have p160 : 0 ≤ (x35_2 : Int) := of_decide_eq_true (by first | (with_reducible assumption) | assumption)
                                have q160 : x35_2 < (l1.length : Int) := of_decide_eq_true (by first | (with_reducible assumption) | assumption)
                                obtain ⟨ad160, e160, hx160_0⟩ := Kd.at_int HR1.out x35_2 p160 q160
                                cases e160
                                replace p160 := eq_true p160
                                replace q160 := eq_true q160
                                go_wp2
                                go_meet
                                case rel => exact ⟨_, (true), (by first | rfl | (simp; done) | (simp [*]; done)), H', ⟨by have := HJ6.out; have := HK2.out; first | omega | exact Nat.le_refl _⟩, by repeat (first | exact Drawn0.refl _ | apply Drawn0.step)⟩
                              · rw [if_neg c19] at H
                                have c19b0 : decide ((rd l1 x35_2) < 0) = false := decide_eq_false c19
                                clear c19
                                have H' := Aside0.mk H
                                clear H
                                have p160 : 0 ≤ (x35_2 : Int) := of_decide_eq_true (by first | (with_reducible assumption) | assumption)
                                have q160 : x35_2 < (l1.length : Int) := of_decide_eq_true (by first | (with_reducible assumption) | assumption)
                                obtain ⟨ad160, e160, hx160_0⟩ := Kd.at_int HR1.out x35_2 p160 q160
                                cases e160
                                replace p160 := eq_true p160
                                replace q160 := eq_true q160
                                have p161 : 0 ≤ (x35_2 : Int) := of_decide_eq_true (by first | (with_reducible assumption) | assumption)
                                have q161 : x35_2 < (l1.length : Int) := of_decide_eq_true (by first | (with_reducible assumption) | assumption)
                                obtain ⟨ad161, e161, hx161_0⟩ := Kd.at_int HR1.out x35_2 p161 q161
                                obtain rfl : ad160 = ad161 := (by injection e161)
                                replace p161 := eq_true p161
                                replace q161 := eq_true q161
                                go_wp2
                                go_meet
                                case rel => exact ⟨_, (decide ((rd l1 x35_2) ≥ a0)), (by first | rfl | (simp; done) | (simp [*]; done)), H', ⟨by have := HJ6.out; have := HK2.out; first | omega | exact Nat.le_refl _⟩, by repeat (first | exact Drawn0.refl _ | apply Drawn0.step)⟩
                            · rw [if_neg c18] at H
                              exact absurd H (by simp)
                          case rest =>
                            clear HC17
                            try clear c1
                            try clear p1
                            try clear q1
                            try clear hx1
                            try clear c2
                            try clear p2
                            try clear c3
                            try clear c6
                            try clear c6b0
                            try clear c6b1
                            try clear p6
                            try clear c8
                            try clear c8b0
                            try clear c8b1
                            try clear c8b2
                            try clear c9
                            try clear c10
                            try clear c10b0
                            try clear c11
                            try clear c11b0
                            try clear c12
                            try clear c12b0
                            try clear q13
                            try clear c14
                            try clear c15
                            try clear c15b0
                            try clear p15
                            try clear q15
                            try clear hx15
                            try clear c16
                            try clear c16b0
                            try clear c16b1
                            try clear c16b2
                            try clear p16
                            try clear q16
                            try clear hx16
                            try clear c18
                            try clear c18b0
                            try clear c19
                            try clear c19b0
                            try clear hx158_0
                            try clear hx159_0
                            try clear hx160_0
                            try clear hx161_0
                            try clear p158
                            try clear p159
                            try clear p160
                            try clear p161
                            try clear p2
                            try clear q158
                            try clear q159
                            try clear q160
                            try clear q161
                            obtain ⟨kq, x63_16, rfl, HA, HJ16, ⟨mc16, rfl⟩⟩ := hcut
                            cases kq with
                            | zero => exact absurd HA.out (by simp [hushref12_Sum.j2])
                            | succ kj16 =>
                              have H := HA.out
                              clear HA
                              simp only [hushref12_Sum.j2] at H
                              by_cases c20 : x63_16 = true
                              · subst c20
                                have H1 : (some (0, 3)) = some (r1, r2) := by rw [if_pos rfl] at H; exact H
                                clear H
                                have H := H1
                                clear H1
                                simp only [Option.some.injEq, Prod.mk.injEq] at H
                                obtain ⟨rfl, rfl⟩ := H
                                go_wp2
                                go_ret2
                                exact ⟨by first | rfl | (simp; done) | (simp [*]; done), by repeat (first | exact Drawn0.refl _ | apply Drawn0.step)⟩
                              · replace c20 := Bool.eq_false_iff.mpr c20
                                subst c20
                                have H1 : (if 0 ≤ x35_2 then (if x35_2 < (l1.length : Int) then ((hushref12_Mod.f (wrap64 (x11_2 + (rd l1 x35_2))) a0).bind fun t163 => (hushref12_Sum.l1 kj16 a0 l1 l2 l3 t163 x35_2 (l1.length : Int) x35_2 (l1.length : Int) 0)) else (none)) else (none)) = some (r1, r2) := by rw [if_neg (show ¬ (false = true) by decide)] at H; exact H
                                clear H
                                have H := H1
                                clear H1
                                by_cases c21 : 0 ≤ x35_2
                                · rw [if_pos c21] at H
                                  have c21b0 : decide (0 ≤ x35_2) = true := decide_eq_true c21
                                  clear c21
                                  by_cases c22 : x35_2 < (l1.length : Int)
                                  · rw [if_pos c22] at H
                                    have c22b0 : decide (x35_2 < (l1.length : Int)) = true := decide_eq_true c22
                                    clear c22
                                    replace H := Option.bind_eq_some_iff.mp H
                                    obtain ⟨t163, A230, H⟩ := H
                                    replace H : (hushref12_Sum.l1 kj16 a0 l1 l2 l3 t163 x35_2 (l1.length : Int) x35_2 (l1.length : Int) 0) = some (r1, r2) := H
                                    have A23 := Aside0.mk A230
                                    clear A230
                                    have H' := Aside0.mk H
                                    clear H
                                    have p162 : 0 ≤ (x35_2 : Int) := of_decide_eq_true (by first | (with_reducible assumption) | assumption)
                                    have q162 : x35_2 < (l1.length : Int) := of_decide_eq_true (by first | (with_reducible assumption) | assumption)
                                    obtain ⟨ad162, e162, hx162_0⟩ := Kd.at_int HR1.out x35_2 p162 q162
                                    cases e162
                                    replace p162 := eq_true p162
                                    replace q162 := eq_true q162
                                    go_wp2_with (first | ((with_reducible refine gate_callee (f := 7) rfl ?_); refine goesL_ (some 71) rfl rfl Try.func7 (by kernel_rfl) rfl #[.int .i64 (wrap64 (x11_2 + (rd l1 x35_2))), .int .i64 a0] rfl (by (try simp only [List.map_toArray, List.map_cons, List.map_nil]); first | done | rfl | (simp only [List.length_drop, List.length_take]; rfl)) ?_; (with_reducible refine (hushref12_Mod.calls (wrap64 (x11_2 + (rd l1 x35_2))) a0 t163 _ A23.out).mono ?_); rintro e w' ⟨rfl, ⟨nd, rfl⟩⟩; refine ⟨_, rfl, ?_⟩))
                                    go_loopg [11, 74] kj16 (fun kq v11 v74 w' => ∃ (x11_4 : Int) (x74_4 : Int), v11 = .int .i64 x11_4 ∧ v74 = .int .i64 x74_4 ∧ Aside0 (hushref12_Sum.l1 kq a0 l1 l2 l3 x11_4 x35_2 (l1.length : Int) x35_2 (l1.length : Int) x74_4 = some (r1, r2)) ∧ Aside0 (kq ≤ kj16) ∧ Drawn0 w w')
                                    case atStart => exact ⟨(t163), (0), (by first | rfl | (simp; done) | (simp [*]; done)), (by first | rfl | (simp; done) | (simp [*]; done)), H', ⟨Nat.le_refl _⟩, by repeat (first | exact Drawn0.refl _ | apply Drawn0.step)⟩
                                    case round =>
                                      clear H'
                                      try clear c1
                                      try clear p1
                                      try clear q1
                                      try clear hx1
                                      try clear c2
                                      try clear p2
                                      try clear c3
                                      try clear c6
                                      try clear c6b0
                                      try clear c6b1
                                      try clear p6
                                      try clear c7
                                      try clear c8
                                      try clear c8b0
                                      try clear c8b1
                                      try clear c8b2
                                      try clear c9
                                      try clear c10
                                      try clear c10b0
                                      try clear c11
                                      try clear c11b0
                                      try clear c12
                                      try clear c12b0
                                      try clear q13
                                      try clear c14
                                      try clear c15
                                      try clear c15b0
                                      try clear p15
                                      try clear q15
                                      try clear hx15
                                      try clear c16
                                      try clear c16b0
                                      try clear c16b1
                                      try clear c16b2
                                      try clear p16
                                      try clear q16
                                      try clear hx16
                                      try clear c18
                                      try clear c18b0
                                      try clear c19
                                      try clear c19b0
                                      try clear c20
                                      try clear c21
                                      try clear c21b0
                                      try clear c22
                                      try clear c22b0
                                      try clear hx158_0
                                      try clear hx159_0
                                      try clear hx160_0
                                      try clear hx161_0
                                      try clear hx162_0
                                      try clear p1
                                      try clear p15
                                      try clear p158
                                      try clear p159
                                      try clear p16
                                      try clear p160
                                      try clear p161
                                      try clear p162
                                      try clear p2
                                      try clear p6
                                      try clear q1
                                      try clear q13
                                      try clear q15
                                      try clear q158
                                      try clear q159
                                      try clear q16
                                      try clear q160
                                      try clear q161
                                      try clear q162
                                      obtain ⟨x11_4, x74_4, rfl, rfl, HA, HK4, ⟨m4, rfl⟩⟩ := hrel
                                      cases gk with
                                      | zero => exact absurd HA.out (by simp [hushref12_Sum.l1])
                                      | succ k4 =>
                                        have H := HA.out
                                        clear HA
                                        simp only [hushref12_Sum.l1] at H
                                        by_cases c24 : x74_4 < (l1.length : Int)
                                        · rw [if_pos c24] at H
                                          have c24b0 : decide (x74_4 < (l1.length : Int)) = true := decide_eq_true c24
                                          clear c24
                                          have HC25 := Aside0.mk H
                                          clear H
                                          go_upto_region 19 with (fail)
                                          go_cut [85] (fun v85 wc => ∃ (kq : Nat) (x85_24 : Bool), v85 = .bool x85_24 ∧ Aside0 (hushref12_Sum.j4 kq a0 l1 l2 l3 x11_4 x35_2 x74_4 (l1.length : Int) x35_2 (l1.length : Int) x74_4 x85_24 = some (r1, r2)) ∧ Aside0 (kq ≤ k4) ∧ Drawn0 w wc)
                                          case first =>
                                            have H := HC25.out
                                            clear HC25
                                            by_cases c26 : x74_4 = x35_2
                                            · rw [if_pos c26] at H
                                              have c26b0 : (x74_4 == x35_2) = true := beq_iff_eq.mpr c26
                                              have c26b1 : (x74_4 != x35_2) = false := bne_eq_false_iff_eq.mpr c26
                                              clear c26
                                              (first | rw [c26b0] | (simp only [i64_w, i32_w]; rw [c26b0]) | skip)
                                              have H' := Aside0.mk H
                                              clear H
                                              go_wp2
                                              go_meet
                                              case rel => exact ⟨_, (true), (by first | rfl | (simp; done) | (simp [*]; done)), H', ⟨by have := HJ6.out; have := HK2.out; have := HJ16.out; have := HK4.out; first | omega | exact Nat.le_refl _⟩, by repeat (first | exact Drawn0.refl _ | apply Drawn0.step)⟩
                                            · rw [if_neg c26] at H
                                              have c26b0 : (x74_4 == x35_2) = false := beq_eq_false_iff_ne.mpr c26
                                              have c26b1 : (x74_4 != x35_2) = true := bne_iff_ne.mpr c26
                                              (first | rw [c26b0] | (simp only [i64_w, i32_w]; rw [c26b0]) | skip)
                                              by_cases c27 : 0 ≤ x74_4
                                              · rw [if_pos c27] at H
                                                have c27b0 : decide (0 ≤ x74_4) = true := decide_eq_true c27
                                                clear c27
                                                by_cases c28 : x74_4 < (l2.length : Int)
                                                · rw [if_pos c28] at H
                                                  have c28b0 : decide (x74_4 < (l2.length : Int)) = true := decide_eq_true c28
                                                  clear c28
                                                  have H' := Aside0.mk H
                                                  clear H
                                                  have p164 : 0 ≤ (x74_4 : Int) := of_decide_eq_true (by first | (with_reducible assumption) | assumption)
                                                  have q164 : x74_4 < (l2.length : Int) := of_decide_eq_true (by first | (with_reducible assumption) | assumption)
                                                  obtain ⟨ad164, e164, hx164_0⟩ := Kd.at_bool HR2.out x74_4 p164 q164
                                                  (try rw [← Nbq13.out] at hx164_0)
                                                  obtain rfl : ad158 = ad164 := (by injection e164)
                                                  replace p164 := eq_true p164
                                                  replace q164 := eq_true q164
                                                  go_wp2
                                                  go_meet
                                                  case rel => exact ⟨_, (rdOf false l2 x74_4), (by first | rfl | (simp; done) | (simp [*]; done)), H', ⟨by have := HJ6.out; have := HK2.out; have := HJ16.out; have := HK4.out; first | omega | exact Nat.le_refl _⟩, by repeat (first | exact Drawn0.refl _ | apply Drawn0.step)⟩
                                                · rw [if_neg c28] at H
                                                  exact absurd H (by simp)
                                              · rw [if_neg c27] at H
                                                exact absurd H (by simp)
                                          case rest =>
                                            clear HC25
                                            try clear c1
                                            try clear p1
                                            try clear q1
                                            try clear hx1
                                            try clear c2
                                            try clear p2
                                            try clear c3
                                            try clear c6
                                            try clear c6b0
                                            try clear c6b1
                                            try clear p6
                                            try clear c7
                                            try clear c8
                                            try clear c8b0
                                            try clear c8b1
                                            try clear c8b2
                                            try clear c9
                                            try clear c10
                                            try clear c10b0
                                            try clear c11
                                            try clear c11b0
                                            try clear c12
                                            try clear c12b0
                                            try clear q13
                                            try clear c14
                                            try clear c15
                                            try clear c15b0
                                            try clear p15
                                            try clear q15
                                            try clear hx15
                                            try clear c16
                                            try clear c16b0
                                            try clear c16b1
                                            try clear c16b2
                                            try clear p16
                                            try clear q16
                                            try clear hx16
                                            try clear c18
                                            try clear c18b0
                                            try clear c19
                                            try clear c19b0
                                            try clear c20
                                            try clear c21
                                            try clear c21b0
                                            try clear c22
                                            try clear c22b0
                                            try clear c24
                                            try clear c24b0
                                            try clear c26
                                            try clear c26b0
                                            try clear c26b1
                                            try clear c27
                                            try clear c27b0
                                            try clear c28
                                            try clear c28b0
                                            try clear hx158_0
                                            try clear hx159_0
                                            try clear hx160_0
                                            try clear hx161_0
                                            try clear hx162_0
                                            try clear hx164_0
                                            try clear p1
                                            try clear p15
                                            try clear p158
                                            try clear p159
                                            try clear p16
                                            try clear p160
                                            try clear p161
                                            try clear p162
                                            try clear p164
                                            try clear p2
                                            try clear p6
                                            try clear q1
                                            try clear q13
                                            try clear q15
                                            try clear q158
                                            try clear q159
                                            try clear q16
                                            try clear q160
                                            try clear q161
                                            try clear q162
                                            try clear q164
                                            obtain ⟨kq, x85_24, rfl, HA, HJ24, ⟨mc24, rfl⟩⟩ := hcut
                                            cases kq with
                                            | zero => exact absurd HA.out (by simp [hushref12_Sum.j4])
                                            | succ kj24 =>
                                              have H := HA.out
                                              clear HA
                                              simp only [hushref12_Sum.j4] at H
                                              by_cases c29 : x85_24 = true
                                              · subst c29
                                                have H1 : (hushref12_Sum.l1 kj24 a0 l1 l2 l3 x11_4 x35_2 (l1.length : Int) x35_2 (l1.length : Int) (wrap64 (x74_4 + 1))) = some (r1, r2) := by rw [if_pos rfl] at H; exact H
                                                clear H
                                                have H := H1
                                                clear H1
                                                have H' := Aside0.mk H
                                                clear H
                                                go_wp2
                                                go_roundg kj24
                                                case measure => have := HJ6.out; have := HK2.out; have := HJ16.out; have := HK4.out; have := HJ24.out; omega
                                                case rel => exact ⟨(x11_4), (wrap64 (x74_4 + 1)), (by first | rfl | (simp; done) | (simp [*]; done)), (by first | rfl | (simp; done) | (simp [*]; done)), H', ⟨by have := HJ6.out; have := HK2.out; have := HJ16.out; have := HK4.out; have := HJ24.out; omega⟩, by repeat (first | exact Drawn0.refl _ | apply Drawn0.step)⟩
                                              · replace c29 := Bool.eq_false_iff.mpr c29
                                                subst c29
                                                have H1 : (if 0 ≤ x35_2 then (if x35_2 < (l3.length : Int) then (if 0 ≤ x74_4 then (if x74_4 < ((rd_L1 l3 x35_2).length : Int) then (if (rd (rd_L1 l3 x35_2) x74_4) < 0 then (hushref12_Sum.j5 kj24 a0 l1 l2 l3 x11_4 x35_2 x74_4 (l1.length : Int) x35_2 (l1.length : Int) x74_4 true) else (hushref12_Sum.j5 kj24 a0 l1 l2 l3 x11_4 x35_2 x74_4 (l1.length : Int) x35_2 (l1.length : Int) x74_4 (decide ((rd (rd_L1 l3 x35_2) x74_4) ≥ a0)))) else (none)) else (none)) else (none)) else (none)) = some (r1, r2) := by rw [if_neg (show ¬ (false = true) by decide)] at H; exact H
                                                clear H
                                                have H := H1
                                                clear H1
                                                have HC30 := Aside0.mk H
                                                clear H
                                                go_upto_region 20 with (fail)
                                                go_cut [104] (fun v104 wc => ∃ (kq : Nat) (x104_29 : Bool), v104 = .bool x104_29 ∧ Aside0 (hushref12_Sum.j5 kq a0 l1 l2 l3 x11_4 x35_2 x74_4 (l1.length : Int) x35_2 (l1.length : Int) x74_4 x104_29 = some (r1, r2)) ∧ Aside0 (kq ≤ kj24) ∧ Drawn0 w wc)
                                                case first =>
                                                  have H := HC30.out
                                                  clear HC30
                                                  by_cases c31 : 0 ≤ x35_2
                                                  · rw [if_pos c31] at H
                                                    have c31b0 : decide (0 ≤ x35_2) = true := decide_eq_true c31
                                                    clear c31
                                                    (first | rw [c31b0] | (simp only [i64_w, i32_w]; rw [c31b0]) | skip)
                                                    by_cases c32 : x35_2 < (l3.length : Int)
                                                    · rw [if_pos c32] at H
                                                      have c32b0 : decide (x35_2 < (l3.length : Int)) = true := decide_eq_true c32
                                                      clear c32
                                                      by_cases c33 : 0 ≤ x74_4
                                                      · rw [if_pos c33] at H
                                                        have c33b0 : decide (0 ≤ x74_4) = true := decide_eq_true c33
                                                        clear c33
                                                        by_cases c34 : x74_4 < ((rd_L1 l3 x35_2).length : Int)
                                                        · rw [if_pos c34] at H
                                                          have c34b0 : decide (x74_4 < ((rd_L1 l3 x35_2).length : Int)) = true := decide_eq_true c34
                                                          clear c34
                                                          by_cases c35 : (rd (rd_L1 l3 x35_2) x74_4) < 0
                                                          · rw [if_pos c35] at H
                                                            have c35b0 : decide ((rd (rd_L1 l3 x35_2) x74_4) < 0) = true := decide_eq_true c35
                                                            clear c35
                                                            have H' := Aside0.mk H
                                                            clear H
                                                            have p165 : 0 ≤ (x35_2 : Int) := of_decide_eq_true (by first | (with_reducible assumption) | assumption)
                                                            have q165 : x35_2 < (l3.length : Int) := of_decide_eq_true (by first | (with_reducible assumption) | assumption)
                                                            obtain ⟨ad165, A165_0, c165_0, e165, hx165_0, hl165_0, hi165_0⟩ := at_L1 HR3.out x35_2 p165 q165
                                                            obtain rfl : ad159 = ad165 := (by injection e165)
                                                            have HR165_0 := Aside0.mk hi165_0
                                                            have HC165_0 := Aside0.mk hl165_0
                                                            clear hi165_0 hl165_0
                                                            replace p165 := eq_true p165
                                                            replace q165 := eq_true q165
                                                            have p166 : 0 ≤ (x74_4 : Int) := of_decide_eq_true (by first | (with_reducible assumption) | assumption)
                                                            have q166 : x74_4 < ((rd_L1 l3 x35_2).length : Int) := of_decide_eq_true (by first | (with_reducible assumption) | assumption)
                                                            obtain ⟨ad166, e166, hx166_0⟩ := Kd.at_int HR165_0.out x74_4 p166 q166
                                                            cases e166
                                                            replace p166 := eq_true p166
                                                            replace q166 := eq_true q166
                                                            go_wp2
                                                            go_meet
                                                            case rel => exact ⟨_, (true), (by first | rfl | (simp; done) | (simp [*]; done)), H', ⟨by have := HJ6.out; have := HK2.out; have := HJ16.out; have := HK4.out; have := HJ24.out; first | omega | exact Nat.le_refl _⟩, by repeat (first | exact Drawn0.refl _ | apply Drawn0.step)⟩
                                                          · rw [if_neg c35] at H
                                                            have c35b0 : decide ((rd (rd_L1 l3 x35_2) x74_4) < 0) = false := decide_eq_false c35
                                                            clear c35
                                                            have H' := Aside0.mk H
                                                            clear H
                                                            have p165 : 0 ≤ (x35_2 : Int) := of_decide_eq_true (by first | (with_reducible assumption) | assumption)
                                                            have q165 : x35_2 < (l3.length : Int) := of_decide_eq_true (by first | (with_reducible assumption) | assumption)
                                                            obtain ⟨ad165, A165_0, c165_0, e165, hx165_0, hl165_0, hi165_0⟩ := at_L1 HR3.out x35_2 p165 q165
                                                            obtain rfl : ad159 = ad165 := (by injection e165)
                                                            have HR165_0 := Aside0.mk hi165_0
                                                            have HC165_0 := Aside0.mk hl165_0
                                                            clear hi165_0 hl165_0
                                                            replace p165 := eq_true p165
                                                            replace q165 := eq_true q165
                                                            have p166 : 0 ≤ (x74_4 : Int) := of_decide_eq_true (by first | (with_reducible assumption) | assumption)
                                                            have q166 : x74_4 < ((rd_L1 l3 x35_2).length : Int) := of_decide_eq_true (by first | (with_reducible assumption) | assumption)
                                                            obtain ⟨ad166, e166, hx166_0⟩ := Kd.at_int HR165_0.out x74_4 p166 q166
                                                            cases e166
                                                            replace p166 := eq_true p166
                                                            replace q166 := eq_true q166
                                                            have p167 : 0 ≤ (x35_2 : Int) := of_decide_eq_true (by first | (with_reducible assumption) | assumption)
                                                            have q167 : x35_2 < (l3.length : Int) := of_decide_eq_true (by first | (with_reducible assumption) | assumption)
                                                            obtain ⟨ad167, A167_0, c167_0, e167, hx167_0, hl167_0, hi167_0⟩ := at_L1 HR3.out x35_2 p167 q167
                                                            obtain rfl : ad159 = ad167 := (by injection e167)
                                                            have HR167_0 := Aside0.mk hi167_0
                                                            have HC167_0 := Aside0.mk hl167_0
                                                            clear hi167_0 hl167_0
                                                            replace p167 := eq_true p167
                                                            replace q167 := eq_true q167
                                                            have ea_ := Option.some.inj (hx165_0.symm.trans hx167_0)
                                                            injection ea_ with ea_ en_ ec_
                                                            subst ea_
                                                            subst ec_
                                                            clear en_
                                                            have p168 : 0 ≤ (x74_4 : Int) := of_decide_eq_true (by first | (with_reducible assumption) | assumption)
                                                            have q168 : x74_4 < ((rd_L1 l3 x35_2).length : Int) := of_decide_eq_true (by first | (with_reducible assumption) | assumption)
                                                            obtain ⟨ad168, e168, hx168_0⟩ := Kd.at_int HR167_0.out x74_4 p168 q168
                                                            cases e168
                                                            replace p168 := eq_true p168
                                                            replace q168 := eq_true q168
                                                            go_wp2
                                                            go_meet
                                                            case rel => exact ⟨_, (decide ((rd (rd_L1 l3 x35_2) x74_4) ≥ a0)), (by first | rfl | (simp; done) | (simp [*]; done)), H', ⟨by have := HJ6.out; have := HK2.out; have := HJ16.out; have := HK4.out; have := HJ24.out; first | omega | exact Nat.le_refl _⟩, by repeat (first | exact Drawn0.refl _ | apply Drawn0.step)⟩
                                                        · rw [if_neg c34] at H
                                                          exact absurd H (by simp)
                                                      · rw [if_neg c33] at H
                                                        exact absurd H (by simp)
                                                    · rw [if_neg c32] at H
                                                      exact absurd H (by simp)
                                                  · rw [if_neg c31] at H
                                                    exact absurd H (by simp)
                                                case rest =>
                                                  clear HC30
                                                  try clear c1
                                                  try clear p1
                                                  try clear q1
                                                  try clear hx1
                                                  try clear c2
                                                  try clear p2
                                                  try clear c3
                                                  try clear c6
                                                  try clear c6b0
                                                  try clear c6b1
                                                  try clear p6
                                                  try clear c7
                                                  try clear c8
                                                  try clear c8b0
                                                  try clear c8b1
                                                  try clear c8b2
                                                  try clear c9
                                                  try clear c10
                                                  try clear c10b0
                                                  try clear c11
                                                  try clear c11b0
                                                  try clear c12
                                                  try clear c12b0
                                                  try clear q13
                                                  try clear c14
                                                  try clear c15
                                                  try clear c15b0
                                                  try clear p15
                                                  try clear q15
                                                  try clear hx15
                                                  try clear c16
                                                  try clear c16b0
                                                  try clear c16b1
                                                  try clear c16b2
                                                  try clear p16
                                                  try clear q16
                                                  try clear hx16
                                                  try clear c18
                                                  try clear c18b0
                                                  try clear c19
                                                  try clear c19b0
                                                  try clear c20
                                                  try clear c21
                                                  try clear c21b0
                                                  try clear c22
                                                  try clear c22b0
                                                  try clear c24
                                                  try clear c24b0
                                                  try clear c26
                                                  try clear c26b0
                                                  try clear c26b1
                                                  try clear c27
                                                  try clear c27b0
                                                  try clear c28
                                                  try clear c28b0
                                                  try clear c29
                                                  try clear c31
                                                  try clear c31b0
                                                  try clear c32
                                                  try clear c32b0
                                                  try clear c33
                                                  try clear c33b0
                                                  try clear c34
                                                  try clear c34b0
                                                  try clear c35
                                                  try clear c35b0
                                                  try clear hx158_0
                                                  try clear hx159_0
                                                  try clear hx160_0
                                                  try clear hx161_0
                                                  try clear hx162_0
                                                  try clear hx164_0
                                                  try clear hx165_0
                                                  try clear hx166_0
                                                  try clear hx167_0
                                                  try clear hx168_0
                                                  try clear p1
                                                  try clear p15
                                                  try clear p158
                                                  try clear p159
                                                  try clear p16
                                                  try clear p160
                                                  try clear p161
                                                  try clear p162
                                                  try clear p164
                                                  try clear p165
                                                  try clear p166
                                                  try clear p167
                                                  try clear p168
                                                  try clear p2
                                                  try clear p6
                                                  try clear q1
                                                  try clear q13
                                                  try clear q15
                                                  try clear q158
                                                  try clear q159
                                                  try clear q16
                                                  try clear q160
                                                  try clear q161
                                                  try clear q162
                                                  try clear q164
                                                  try clear q165
                                                  try clear q166
                                                  try clear q167
                                                  try clear q168
                                                  obtain ⟨kq, x104_29, rfl, HA, HJ29, ⟨mc29, rfl⟩⟩ := hcut
                                                  cases kq with
                                                  | zero => exact absurd HA.out (by simp [hushref12_Sum.j5])
                                                  | succ kj29 =>
                                                    have H := HA.out
                                                    clear HA
                                                    simp only [hushref12_Sum.j5] at H
                                                    by_cases c36 : x104_29 = true
                                                    · subst c36
                                                      have H1 : (some (0, 3)) = some (r1, r2) := by rw [if_pos rfl] at H; exact H
                                                      clear H
                                                      have H := H1
                                                      clear H1
                                                      simp only [Option.some.injEq, Prod.mk.injEq] at H
                                                      obtain ⟨rfl, rfl⟩ := H
                                                      go_wp2
                                                      go_ret2
                                                      exact ⟨by first | rfl | (simp; done) | (simp [*]; done), by repeat (first | exact Drawn0.refl _ | apply Drawn0.step)⟩
                                                    · replace c36 := Bool.eq_false_iff.mpr c36
                                                      subst c36
                                                      have H1 : (if x74_4 < x35_2 then (if 0 ≤ x35_2 then (if x35_2 < (l3.length : Int) then (if 0 ≤ x74_4 then (if x74_4 < ((rd_L1 l3 x35_2).length : Int) then ((hushref12_Mod.f (wrap64 (x11_4 + (rd (rd_L1 l3 x35_2) x74_4))) a0).bind fun t171 => (hushref12_Sum.l1 kj29 a0 l1 l2 l3 t171 x35_2 (l1.length : Int) x35_2 (l1.length : Int) (wrap64 (x74_4 + 1)))) else (none)) else (none)) else (none)) else (none)) else (if 0 ≤ x35_2 then (if x35_2 < (l3.length : Int) then (if 0 ≤ x74_4 then (if x74_4 < ((rd_L1 l3 x35_2).length : Int) then ((hushref12_Mod.f (wrap64 (x11_4 - (rd (rd_L1 l3 x35_2) x74_4))) a0).bind fun t174 => (hushref12_Sum.l1 kj29 a0 l1 l2 l3 t174 x35_2 (l1.length : Int) x35_2 (l1.length : Int) (wrap64 (x74_4 + 1)))) else (none)) else (none)) else (none)) else (none))) = some (r1, r2) := by rw [if_neg (show ¬ (false = true) by decide)] at H; exact H
                                                      clear H
                                                      have H := H1
                                                      clear H1
                                                      by_cases c37 : x74_4 < x35_2
                                                      · rw [if_pos c37] at H
                                                        have c37b0 : decide (x74_4 < x35_2) = true := decide_eq_true c37
                                                        clear c37
                                                        by_cases c38 : 0 ≤ x35_2
                                                        · rw [if_pos c38] at H
                                                          have c38b0 : decide (0 ≤ x35_2) = true := decide_eq_true c38
                                                          clear c38
                                                          by_cases c39 : x35_2 < (l3.length : Int)
                                                          · rw [if_pos c39] at H
                                                            have c39b0 : decide (x35_2 < (l3.length : Int)) = true := decide_eq_true c39
                                                            clear c39
                                                            by_cases c40 : 0 ≤ x74_4
                                                            · rw [if_pos c40] at H
                                                              have c40b0 : decide (0 ≤ x74_4) = true := decide_eq_true c40
                                                              clear c40
                                                              by_cases c41 : x74_4 < ((rd_L1 l3 x35_2).length : Int)
                                                              · rw [if_pos c41] at H
                                                                have c41b0 : decide (x74_4 < ((rd_L1 l3 x35_2).length : Int)) = true := decide_eq_true c41
                                                                clear c41
                                                                replace H := Option.bind_eq_some_iff.mp H
                                                                obtain ⟨t171, A420, H⟩ := H
                                                                replace H : (hushref12_Sum.l1 kj29 a0 l1 l2 l3 t171 x35_2 (l1.length : Int) x35_2 (l1.length : Int) (wrap64 (x74_4 + 1))) = some (r1, r2) := H
                                                                have A42 := Aside0.mk A420
                                                                clear A420
                                                                have H' := Aside0.mk H
                                                                clear H
                                                                have p169 : 0 ≤ (x35_2 : Int) := of_decide_eq_true (by first | (with_reducible assumption) | assumption)
                                                                have q169 : x35_2 < (l3.length : Int) := of_decide_eq_true (by first | (with_reducible assumption) | assumption)
                                                                obtain ⟨ad169, A169_0, c169_0, e169, hx169_0, hl169_0, hi169_0⟩ := at_L1 HR3.out x35_2 p169 q169
                                                                obtain rfl : ad159 = ad169 := (by injection e169)
                                                                have HR169_0 := Aside0.mk hi169_0
                                                                have HC169_0 := Aside0.mk hl169_0
                                                                clear hi169_0 hl169_0
                                                                replace p169 := eq_true p169
                                                                replace q169 := eq_true q169
                                                                have p170 : 0 ≤ (x74_4 : Int) := of_decide_eq_true (by first | (with_reducible assumption) | assumption)
                                                                have q170 : x74_4 < ((rd_L1 l3 x35_2).length : Int) := of_decide_eq_true (by first | (with_reducible assumption) | assumption)
                                                                obtain ⟨ad170, e170, hx170_0⟩ := Kd.at_int HR169_0.out x74_4 p170 q170
                                                                cases e170
                                                                replace p170 := eq_true p170
                                                                replace q170 := eq_true q170
                                                                go_wp2_with (first | ((with_reducible refine gate_callee (f := 7) rfl ?_); refine goesL_ (some 118) rfl rfl Try.func7 (by kernel_rfl) rfl #[.int .i64 (wrap64 (x11_4 + (rd (rd_L1 l3 x35_2) x74_4))), .int .i64 a0] rfl (by (try simp only [List.map_toArray, List.map_cons, List.map_nil]); first | done | rfl | (simp only [List.length_drop, List.length_take]; rfl)) ?_; (with_reducible refine (hushref12_Mod.calls (wrap64 (x11_4 + (rd (rd_L1 l3 x35_2) x74_4))) a0 t171 _ A42.out).mono ?_); rintro e w' ⟨rfl, ⟨nd, rfl⟩⟩; refine ⟨_, rfl, ?_⟩))
                                                                go_roundg kj29
                                                                case measure => have := HJ6.out; have := HK2.out; have := HJ16.out; have := HK4.out; have := HJ24.out; have := HJ29.out; omega
                                                                case rel => exact ⟨(t171), (wrap64 (x74_4 + 1)), (by first | rfl | (simp; done) | (simp [*]; done)), (by first | rfl | (simp; done) | (simp [*]; done)), H', ⟨by have := HJ6.out; have := HK2.out; have := HJ16.out; have := HK4.out; have := HJ24.out; have := HJ29.out; omega⟩, by repeat (first | exact Drawn0.refl _ | apply Drawn0.step)⟩
                                                              · rw [if_neg c41] at H
                                                                exact absurd H (by simp)
                                                            · rw [if_neg c40] at H
                                                              exact absurd H (by simp)
                                                          · rw [if_neg c39] at H
                                                            exact absurd H (by simp)
                                                        · rw [if_neg c38] at H
                                                          exact absurd H (by simp)
                                                      · rw [if_neg c37] at H
                                                        have c37b0 : decide (x74_4 < x35_2) = false := decide_eq_false c37
                                                        clear c37
                                                        by_cases c43 : 0 ≤ x35_2
                                                        · rw [if_pos c43] at H
                                                          have c43b0 : decide (0 ≤ x35_2) = true := decide_eq_true c43
                                                          clear c43
                                                          by_cases c44 : x35_2 < (l3.length : Int)
                                                          · rw [if_pos c44] at H
                                                            have c44b0 : decide (x35_2 < (l3.length : Int)) = true := decide_eq_true c44
                                                            clear c44
                                                            by_cases c45 : 0 ≤ x74_4
                                                            · rw [if_pos c45] at H
                                                              have c45b0 : decide (0 ≤ x74_4) = true := decide_eq_true c45
                                                              clear c45
                                                              by_cases c46 : x74_4 < ((rd_L1 l3 x35_2).length : Int)
                                                              · rw [if_pos c46] at H
                                                                have c46b0 : decide (x74_4 < ((rd_L1 l3 x35_2).length : Int)) = true := decide_eq_true c46
                                                                clear c46
                                                                replace H := Option.bind_eq_some_iff.mp H
                                                                obtain ⟨t174, A470, H⟩ := H
                                                                replace H : (hushref12_Sum.l1 kj29 a0 l1 l2 l3 t174 x35_2 (l1.length : Int) x35_2 (l1.length : Int) (wrap64 (x74_4 + 1))) = some (r1, r2) := H
                                                                have A47 := Aside0.mk A470
                                                                clear A470
                                                                have H' := Aside0.mk H
                                                                clear H
                                                                have p172 : 0 ≤ (x35_2 : Int) := of_decide_eq_true (by first | (with_reducible assumption) | assumption)
                                                                have q172 : x35_2 < (l3.length : Int) := of_decide_eq_true (by first | (with_reducible assumption) | assumption)
                                                                obtain ⟨ad172, A172_0, c172_0, e172, hx172_0, hl172_0, hi172_0⟩ := at_L1 HR3.out x35_2 p172 q172
                                                                obtain rfl : ad159 = ad172 := (by injection e172)
                                                                have HR172_0 := Aside0.mk hi172_0
                                                                have HC172_0 := Aside0.mk hl172_0
                                                                clear hi172_0 hl172_0
                                                                replace p172 := eq_true p172
                                                                replace q172 := eq_true q172
                                                                have p173 : 0 ≤ (x74_4 : Int) := of_decide_eq_true (by first | (with_reducible assumption) | assumption)
                                                                have q173 : x74_4 < ((rd_L1 l3 x35_2).length : Int) := of_decide_eq_true (by first | (with_reducible assumption) | assumption)
                                                                obtain ⟨ad173, e173, hx173_0⟩ := Kd.at_int HR172_0.out x74_4 p173 q173
                                                                cases e173
                                                                replace p173 := eq_true p173
                                                                replace q173 := eq_true q173
                                                                go_wp2_with (first | ((with_reducible refine gate_callee (f := 7) rfl ?_); refine goesL_ (some 129) rfl rfl Try.func7 (by kernel_rfl) rfl #[.int .i64 (wrap64 (x11_4 - (rd (rd_L1 l3 x35_2) x74_4))), .int .i64 a0] rfl (by (try simp only [List.map_toArray, List.map_cons, List.map_nil]); first | done | rfl | (simp only [List.length_drop, List.length_take]; rfl)) ?_; (with_reducible refine (hushref12_Mod.calls (wrap64 (x11_4 - (rd (rd_L1 l3 x35_2) x74_4))) a0 t174 _ A47.out).mono ?_); rintro e w' ⟨rfl, ⟨nd, rfl⟩⟩; refine ⟨_, rfl, ?_⟩))
                                                                go_roundg kj29
                                                                case measure => have := HJ6.out; have := HK2.out; have := HJ16.out; have := HK4.out; have := HJ24.out; have := HJ29.out; omega
                                                                case rel => exact ⟨(t174), (wrap64 (x74_4 + 1)), (by first | rfl | (simp; done) | (simp [*]; done)), (by first | rfl | (simp; done) | (simp [*]; done)), H', ⟨by have := HJ6.out; have := HK2.out; have := HJ16.out; have := HK4.out; have := HJ24.out; have := HJ29.out; omega⟩, by repeat (first | exact Drawn0.refl _ | apply Drawn0.step)⟩
                                                              · rw [if_neg c46] at H
                                                                exact absurd H (by simp)
                                                            · rw [if_neg c45] at H
                                                              exact absurd H (by simp)
                                                          · rw [if_neg c44] at H
                                                            exact absurd H (by simp)
                                                        · rw [if_neg c43] at H
                                                          exact absurd H (by simp)
                                        · rw [if_neg c24] at H
                                          have c24b0 : decide (x74_4 < (l1.length : Int)) = false := decide_eq_false c24
                                          clear c24
                                          have H' := Aside0.mk H
                                          clear H
                                          go_wp2
                                          go_roundg k4
                                          case measure => have := HJ6.out; have := HK2.out; have := HJ16.out; have := HK4.out; omega
                                          case rel => exact ⟨(x11_4), (wrap64 (x35_2 + 1)), (by first | rfl | (simp; done) | (simp [*]; done)), (by first | rfl | (simp; done) | (simp [*]; done)), H', ⟨by have := HJ6.out; have := HK2.out; have := HJ16.out; have := HK4.out; omega⟩, by repeat (first | exact Drawn0.refl _ | apply Drawn0.step)⟩
                                  · rw [if_neg c22] at H
                                    exact absurd H (by simp)
                                · rw [if_neg c21] at H
                                  exact absurd H (by simp)
                        · rw [if_neg c16] at H
                          have c16b0 : (((rd_L1 l3 x35_2).length : Int) == (l1.length : Int)) = false := beq_eq_false_iff_ne.mpr c16
                          have c16b1 : (((rd_L1 l3 x35_2).length : Int) != (l1.length : Int)) = true := bne_iff_ne.mpr c16
                          have c16b2 : ((rd_L1 l3 x35_2).length == l1.length) = false := by first | simpa using c16 | (simp at c16 ⊢; omega)
                          simp only [Option.some.injEq, Prod.mk.injEq] at H
                          obtain ⟨rfl, rfl⟩ := H
                          have p158 : 0 ≤ (x35_2 : Int) := of_decide_eq_true (by first | (with_reducible assumption) | assumption)
                          have q158 : x35_2 < (l2.length : Int) := of_decide_eq_true (by first | (with_reducible assumption) | assumption)
                          obtain ⟨ad158, e158, hx158_0⟩ := Kd.at_bool HR2.out x35_2 p158 q158
                          (try rw [← Nbq13.out] at hx158_0)
                          cases e158
                          replace p158 := eq_true p158
                          replace q158 := eq_true q158
                          have p159 : 0 ≤ (x35_2 : Int) := of_decide_eq_true (by first | (with_reducible assumption) | assumption)
                          have q159 : x35_2 < (l3.length : Int) := of_decide_eq_true (by first | (with_reducible assumption) | assumption)
                          obtain ⟨ad159, A159_0, c159_0, e159, hx159_0, hl159_0, hi159_0⟩ := at_L1 HR3.out x35_2 p159 q159
                          cases e159
                          have HR159_0 := Aside0.mk hi159_0
                          have HC159_0 := Aside0.mk hl159_0
                          clear hi159_0 hl159_0
                          replace p159 := eq_true p159
                          replace q159 := eq_true q159
                          go_wp2
                          go_ret2
                          exact ⟨by first | rfl | (simp; done) | (simp [*]; done), by repeat (first | exact Drawn0.refl _ | apply Drawn0.step)⟩
                      · rw [if_neg c15] at H
                        exact absurd H (by simp)
                    · replace c14 := Bool.eq_false_iff.mpr c14
                      subst c14
                      have H1 : (hushref12_Sum.l0 k2 a0 l1 l2 l3 x11_2 (l1.length : Int) (wrap64 (x35_2 + 1))) = some (r1, r2) := by rw [if_neg (show ¬ (false = true) by decide)] at H; exact H
                      clear H
                      have H := H1
                      clear H1
                      have H' := Aside0.mk H
                      clear H
                      have p158 : 0 ≤ (x35_2 : Int) := of_decide_eq_true (by first | (with_reducible assumption) | assumption)
                      have q158 : x35_2 < (l2.length : Int) := of_decide_eq_true (by first | (with_reducible assumption) | assumption)
                      obtain ⟨ad158, e158, hx158_0⟩ := Kd.at_bool HR2.out x35_2 p158 q158
                      (try rw [← Nbq13.out] at hx158_0)
                      cases e158
                      replace p158 := eq_true p158
                      replace q158 := eq_true q158
                      go_wp2
                      go_roundg k2
                      case measure => have := HJ6.out; have := HK2.out; omega
                      case rel => exact ⟨(x11_2), (wrap64 (x35_2 + 1)), (by first | rfl | (simp; done) | (simp [*]; done)), (by first | rfl | (simp; done) | (simp [*]; done)), H', ⟨by have := HJ6.out; have := HK2.out; omega⟩, by repeat (first | exact Drawn0.refl _ | apply Drawn0.step)⟩
                  · rw [if_neg c12] at H
                    exact absurd H (by simp)
                · rw [if_neg c11] at H
                  exact absurd H (by simp)
              · rw [if_neg c10] at H
                have c10b0 : decide (x35_2 < (l1.length : Int)) = false := decide_eq_false c10
                clear c10
                simp only [Option.some.injEq, Prod.mk.injEq] at H
                obtain ⟨rfl, rfl⟩ := H
                go_wp2
                go_ret2
                exact ⟨by first | rfl | (simp; done) | (simp [*]; done), by repeat (first | exact Drawn0.refl _ | apply Drawn0.step)⟩
  · rw [if_neg c6] at H
    have c6b0 : (t157 == 0) = false := beq_eq_false_iff_ne.mpr c6
    have c6b1 : (t157 != 0) = true := bne_iff_ne.mpr c6
    simp only [Option.some.injEq, Prod.mk.injEq] at H
    obtain ⟨rfl, rfl⟩ := H
    go_enter Try.func14, Try.ntmps14
    go_wp2_with (first | ((with_reducible refine gate_callee (f := 20) rfl ?_); refine goesL_ (some 17) rfl rfl Try.func20 (by kernel_rfl) rfl #[.int .i64 a0, .int .i64 (l1.length : Int)] rfl (by (try simp only [List.map_toArray, List.map_cons, List.map_nil]); first | done | rfl | (simp only [List.length_drop, List.length_take]; rfl)) ?_; (with_reducible refine (hushref12_team.calls k a0 (l1.length : Int) t157 _ A5.out).mono ?_); rintro e w' ⟨rfl, ⟨nd, rfl⟩⟩; refine ⟨_, rfl, ?_⟩))
    go_ret2
    exact ⟨by first | rfl | (simp; done) | (simp [*]; done), by repeat (first | exact Drawn0.refl _ | apply Drawn0.step)⟩

end Go.Proofs.Ytjehjjpejmdfiaa.PA

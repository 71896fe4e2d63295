
/- Functions of the program in Lean, by wip/xprint.py. Conditions: in each theorem. -/
import Derived.Test.YtjbgnlhgjgnclaaPBxs
import Derived.Test.YtjbgnlhgjgnclaaPBx0
import Derived.Test.YtjbgnlhgjgnclaaPBx10
import Derived.Test.YtjbgnlhgjgnclaaPBx15
namespace Go.Proofs.Ytjbgnlhgjgnclaa.PB
open Go.RowKit Go.Proofs.YtjbgnlhgjgnclaaW.PrintWords Go.Proofs.YtjbgnlhgjgnclaaW.PrintLast Go.Proofs.YtjbgnlhgjgnclaaW.PrintMore
attribute [local go_sem] max2_int min2_int max_two min_two max_three min_three max_four min_four   -- for this text's walks alone
set_option linter.unusedVariables false
set_option linter.unusedSimpArgs false

/-! ### hushref6_Hide: function 13 -/
mutual
def hushref6_Hide.j0 : Nat → Int → Int → Int → Bool → Int → Int → Option ((List (S64)) × Int)
 | 0, _, _, _, _, _, _ => none
 | k + 1, x1, x2, x3, x36, x226000, x226001 => if x36 = true then (some (([] : List (S64)), 3)) else (if x1 = x2 then ((hushref2_Make.f k (([(⟨(([x1] : List Int)), 1⟩ : S64)] : List (S64)))).bind fun bt233 => (some (bt233.1, bt233.2))) else ((hushref6_Power.f k x226000 (wrap64 (x2 - x1))).bind fun t237 => (if t237 > 1073741824 then (hushref6_Hide.j1 k x1 x2 x3 true x226000 x226001) else ((hushref6_Power.f k x226000 (wrap64 (x2 - x1))).bind fun t238 => (hushref6_Hide.j1 k x1 x2 x3 (decide ((wrap64 (t238 * (wrap64 (x226000 + x226001)))) > 1073741824)) x226000 x226001)))))
def hushref6_Hide.j1 : Nat → Int → Int → Int → Bool → Int → Int → Option ((List (S64)) × Int)
 | 0, _, _, _, _, _, _ => none
 | k + 1, x1, x2, x3, x68, x226000, x226001 => if x68 = true then (some (([] : List (S64)), 4)) else (if x3 < x1 then (hushref6_Hide.j2 k x1 x2 x1 x226000 x226001) else (hushref6_Hide.j2 k x1 x2 x3 x226000 x226001))
def hushref6_Hide.j2 : Nat → Int → Int → Int → Int → Int → Option ((List (S64)) × Int)
 | 0, _, _, _, _, _ => none
 | k + 1, x1, x2, x3, x226000, x226001 => if x3 > x2 then (hushref6_Hide.j3 k x1 x2 x2 x226000 x226001) else (hushref6_Hide.j3 k x1 x2 x3 x226000 x226001)
def hushref6_Hide.j3 : Nat → Int → Int → Int → Int → Int → Option ((List (S64)) × Int)
 | 0, _, _, _, _, _ => none
 | k + 1, x1, x2, x3, x226000, x226001 => hushref6_Hide.l0 k x1 x2 x3 ([] : List (S64)) x1 x226000 x226001
def hushref6_Hide.l0 : Nat → Int → Int → Int → List (S64) → Int → Int → Int → Option ((List (S64)) × Int)
 | 0, _, _, _, _, _, _, _ => none
 | k + 1, x1, x2, x3, x11, x12, x226000, x226001 => if x12 ≤ x2 then (if (wrap64 (x12 - x3)) < 0 then (hushref6_Hide.j5 k x1 x2 x3 x11 x12 (wrap64 (-(wrap64 (x12 - x3)))) x226000 x226001) else (hushref6_Hide.j5 k x1 x2 x3 x11 x12 (wrap64 (x12 - x3)) x226000 x226001)) else ((hushref2_Make.f k x11).bind fun bt239 => (some (bt239.1, bt239.2)))
def hushref6_Hide.j5 : Nat → Int → Int → Int → List (S64) → Int → Int → Int → Int → Option ((List (S64)) × Int)
 | 0, _, _, _, _, _, _, _, _ => none
 | k + 1, x1, x2, x3, x11, x12, x13, x226000, x226001 => if x12 = x1 then (hushref6_Hide.j6 k x1 x2 x3 x11 x12 x13 (wrap64 (x226000 - x226001)) true x226000 x226001) else (hushref6_Hide.j6 k x1 x2 x3 x11 x12 x13 (wrap64 (x226000 - x226001)) (x12 == x2) x226000 x226001)
def hushref6_Hide.j6 : Nat → Int → Int → Int → List (S64) → Int → Int → Int → Bool → Int → Int → Option ((List (S64)) × Int)
 | 0, _, _, _, _, _, _, _, _, _, _ => none
 | k + 1, x1, x2, x3, x11, x12, x13, x14, x102, x226000, x226001 => if x102 = true then ((hushref6_Power.f k x226001 x13).bind fun t246 => ((hushref6_Power.f k x226000 (wrap64 ((wrap64 (x2 - x1)) - x13))).bind fun t247 => (if x11.length < 4398046511104 then (hushref6_Hide.l0 k x1 x2 x3 (x11 ++ [(⟨(([x12] : List Int)), wrap64 ((wrap64 (x226000 * t246)) * t247)⟩ : S64)]) (wrap64 (x12 + 1)) x226000 x226001) else (none)))) else ((hushref6_Power.f k x226001 x13).bind fun t254 => ((hushref6_Power.f k x226000 (wrap64 ((wrap64 (x2 - x1)) - x13))).bind fun t255 => (if x11.length < 4398046511104 then (hushref6_Hide.l0 k x1 x2 x3 (x11 ++ [(⟨(([x12] : List Int)), wrap64 ((wrap64 (x14 * t254)) * t255)⟩ : S64)]) (wrap64 (x12 + 1)) x226000 x226001) else (none))))
end
def hushref6_Hide.f (k : Nat) (a0_0 : Int) (a0_1 : Int) (a1 : Int) (a2 : Int) (a3 : Int) : Option ((List (S64)) × Int) := (hushref6_Loss.f k a0_0 a0_1).bind fun t226 => (if t226 = 0 then (if a1 < (-1073741824) then (hushref6_Hide.j0 k a1 a2 a3 true a0_0 a0_1) else (if a2 > 1073741824 then (hushref6_Hide.j0 k a1 a2 a3 true a0_0 a0_1) else (if a2 < a1 then (hushref6_Hide.j0 k a1 a2 a3 true a0_0 a0_1) else (hushref6_Hide.j0 k a1 a2 a3 (decide (a2 > (wrap64 (a1 + 64)))) a0_0 a0_1)))) else (some (([] : List (S64)), t226)))
theorem hushref6_Hide.mono_l : ∀ k, (∀ y0 y1 y2 y3 y4 y5, LeO (hushref6_Hide.j0 k y0 y1 y2 y3 y4 y5) (hushref6_Hide.j0 (k + 1) y0 y1 y2 y3 y4 y5)) ∧ (∀ y0 y1 y2 y3 y4 y5, LeO (hushref6_Hide.j1 k y0 y1 y2 y3 y4 y5) (hushref6_Hide.j1 (k + 1) y0 y1 y2 y3 y4 y5)) ∧ (∀ y0 y1 y2 y3 y4, LeO (hushref6_Hide.j2 k y0 y1 y2 y3 y4) (hushref6_Hide.j2 (k + 1) y0 y1 y2 y3 y4)) ∧ (∀ y0 y1 y2 y3 y4, LeO (hushref6_Hide.j3 k y0 y1 y2 y3 y4) (hushref6_Hide.j3 (k + 1) y0 y1 y2 y3 y4)) ∧ (∀ y0 y1 y2 y3 y4 y5 y6, LeO (hushref6_Hide.l0 k y0 y1 y2 y3 y4 y5 y6) (hushref6_Hide.l0 (k + 1) y0 y1 y2 y3 y4 y5 y6)) ∧ (∀ y0 y1 y2 y3 y4 y5 y6 y7, LeO (hushref6_Hide.j5 k y0 y1 y2 y3 y4 y5 y6 y7) (hushref6_Hide.j5 (k + 1) y0 y1 y2 y3 y4 y5 y6 y7)) ∧ (∀ y0 y1 y2 y3 y4 y5 y6 y7 y8 y9, LeO (hushref6_Hide.j6 k y0 y1 y2 y3 y4 y5 y6 y7 y8 y9) (hushref6_Hide.j6 (k + 1) y0 y1 y2 y3 y4 y5 y6 y7 y8 y9))
 | 0 => ⟨fun _ _ _ _ _ _ r h => by simp [hushref6_Hide.j0] at h, fun _ _ _ _ _ _ r h => by simp [hushref6_Hide.j1] at h, fun _ _ _ _ _ r h => by simp [hushref6_Hide.j2] at h, fun _ _ _ _ _ r h => by simp [hushref6_Hide.j3] at h, fun _ _ _ _ _ _ _ r h => by simp [hushref6_Hide.l0] at h, fun _ _ _ _ _ _ _ _ r h => by simp [hushref6_Hide.j5] at h, fun _ _ _ _ _ _ _ _ _ _ r h => by simp [hushref6_Hide.j6] at h⟩
 | k + 1 => by
  obtain ⟨ih0, ih1, ih2, ih3, ih4, ih5, ih6⟩ := hushref6_Hide.mono_l k
  refine ⟨?_, ?_, ?_, ?_, ?_, ?_, ?_⟩
  ·
   intro y0 y1 y2 y3 y4 y5
   unfold hushref6_Hide.j0
   repeat' first
   | (with_reducible exact ih1 _ _ _ _ _ _)
   | (with_reducible exact hushref2_Make.mono _ _)
   | (with_reducible exact hushref6_Power.mono _ _ _)
   | (with_reducible exact LeO.refl _)
   | (with_reducible refine LeO.ite ?_ ?_)
   | (with_reducible refine LeO.bind ?_ (fun _ => ?_))
  ·
   intro y0 y1 y2 y3 y4 y5
   unfold hushref6_Hide.j1
   repeat' first
   | (with_reducible exact ih2 _ _ _ _ _)
   | (with_reducible exact LeO.refl _)
   | (with_reducible refine LeO.ite ?_ ?_)
  ·
   intro y0 y1 y2 y3 y4
   unfold hushref6_Hide.j2
   repeat' first
   | (with_reducible exact ih3 _ _ _ _ _)
   | (with_reducible refine LeO.ite ?_ ?_)
  ·
   intro y0 y1 y2 y3 y4
   unfold hushref6_Hide.j3
   repeat' (with_reducible exact ih4 _ _ _ _ _ _ _)
  ·
   intro y0 y1 y2 y3 y4 y5 y6
   unfold hushref6_Hide.l0
   repeat' first
   | (with_reducible exact ih5 _ _ _ _ _ _ _ _)
   | (with_reducible exact hushref2_Make.mono _ _)
   | (with_reducible exact LeO.refl _)
   | (with_reducible refine LeO.ite ?_ ?_)
   | (with_reducible refine LeO.bind ?_ (fun _ => ?_))
  ·
   intro y0 y1 y2 y3 y4 y5 y6 y7
   unfold hushref6_Hide.j5
   repeat' first
   | (with_reducible exact ih6 _ _ _ _ _ _ _ _ _ _)
   | (with_reducible refine LeO.ite ?_ ?_)
  ·
   intro y0 y1 y2 y3 y4 y5 y6 y7 y8 y9
   unfold hushref6_Hide.j6
   repeat' first
   | (with_reducible exact ih4 _ _ _ _ _ _ _)
   | (with_reducible exact hushref6_Power.mono _ _ _)
   | (with_reducible exact LeO.refl _)
   | (with_reducible refine LeO.ite ?_ ?_)
   | (with_reducible refine LeO.bind ?_ (fun _ => ?_))
theorem hushref6_Hide.mono : ∀ a0 a1 a2 a3 a4 k, LeO (hushref6_Hide.f k a0 a1 a2 a3 a4) (hushref6_Hide.f (k + 1) a0 a1 a2 a3 a4) := by
 intro a0 a1 a2 a3 a4 k
 obtain ⟨ih0, ih1, ih2, ih3, ih4, ih5, ih6⟩ := hushref6_Hide.mono_l k
 unfold hushref6_Hide.f
 repeat' first
   | (with_reducible exact ih0 _ _ _ _ _ _)
   | (with_reducible exact hushref6_Loss.mono _ _ _)
   | (with_reducible exact LeO.refl _)
   | (with_reducible refine LeO.ite ?_ ?_)
   | (with_reducible refine LeO.bind ?_ (fun _ => ?_))
def hushref6_Hide.T8 : Bool × List (List Nat × List Nat) := (true, [([], []), ([0], [0]), ([], []), ([], []), ([2, 3], [2, 3]), ([1, 4], [1, 4]), ([5], [5]), ([6, 5], [6]), ([7], [7]), ([8, 7], [7, 8]), ([7], [7]), ([7], [7]), ([10, 11, 7], [7, 10, 11]), ([9, 12, 7, 7], [7, 9, 12]), ([7], [7]), ([14, 7], [7, 14]), ([7], [7]), ([16, 7], [7, 16]), ([15, 17, 7], [7, 15, 17]), ([13, 18, 7], [7, 13, 18]), ([19, 7], [7, 19]), ([7, 20], [7, 20])])
def hushref6_Hide.B8 : List Nat := [0, 1, 0, 0, 12, 31, 63, 127, 255, 511, 255, 255, 3327, 8191, 255, 16639, 255, 65791, 246015, 524287, 1048575, 2097151]
theorem hushref6_Hide.tab8 : rtab .any (opsOf Try.f13 8) = hushref6_Hide.T8 := by kernel_rfl
theorem hushref6_Hide.bits8 : waitsOk hushref6_Hide.T8.2 hushref6_Hide.B8 = true := by kernel_rfl
def hushref6_Hide.T24 : Bool × List (List Nat × List Nat) := (true, [([], []), ([], []), ([1], [1]), ([], []), ([], []), ([4], [4]), ([], []), ([5, 6], [5, 6]), ([3, 7], [3, 7]), ([], []), ([9], [9]), ([], []), ([], []), ([11, 12], [11, 12]), ([], []), ([13, 14], [13, 14]), ([10, 15, 7], [10, 15]), ([8, 16], [8, 16]), ([2, 17], [2, 17]), ([18], [18]), ([0, 19, 16], [0, 19]), ([20, 20, 0, 1, 2, 3, 4, 5, 6, 7, 8, 9, 10, 11, 12, 13, 14, 15, 16, 17, 18, 19, 20], [0, 20])])
def hushref6_Hide.B24 : List Nat := [0, 0, 2, 0, 0, 16, 0, 112, 248, 0, 512, 0, 0, 6144, 0, 30720, 65264, 131064, 262142, 524286, 1048575, 2097151]
theorem hushref6_Hide.tab24 : rtab .any (opsOf Try.f13 24) = hushref6_Hide.T24 := by kernel_rfl
theorem hushref6_Hide.bits24 : waitsOk hushref6_Hide.T24.2 hushref6_Hide.B24 = true := by kernel_rfl
set_option maxHeartbeats 8000000 in
set_option maxRecDepth 100000 in
theorem hushref6_Hide.calls (k : Nat) (a0_0 : Int) (a0_1 : Int) (a1 : Int) (a2 : Int) (a3 : Int) (r1 : List (S64)) (r2 : Int) (w : World) (h : hushref6_Hide.f k a0_0 a0_1 a1 a2 a3 = some (r1, r2)) :
  Calls Try.prog 13 #[.agg #[.int .i64 a0_0, .int .i64 a0_1], .int .i64 a1, .int .i64 a2, .int .i64 a3] w fun e w' => ∃ v0_ : Value, e = .returned (.tuple #[v0_, .int .i64 r2]) ∧ Kd.N k64 64 w' w.heap.size (fun k_ => (w.heap.size ≤ k_)) v0_ r1 ∧ Below w.heap.size w w' := by
 have hu23 := Try.underlying23
 have hu64 := Try.underlying64
 have HB := Aside0.mk (Below.refl w.heap.size w)
 have H : ((hushref6_Loss.f k a0_0 a0_1).bind fun t226 => (if t226 = 0 then (if a1 < (-1073741824) then (hushref6_Hide.j0 k a1 a2 a3 true a0_0 a0_1) else (if a2 > 1073741824 then (hushref6_Hide.j0 k a1 a2 a3 true a0_0 a0_1) else (if a2 < a1 then (hushref6_Hide.j0 k a1 a2 a3 true a0_0 a0_1) else (hushref6_Hide.j0 k a1 a2 a3 (decide (a2 > (wrap64 (a1 + 64)))) a0_0 a0_1)))) else (some (([] : List (S64)), t226)))) = some (r1, r2) := h
 clear h
 obtain ⟨t226, A5, H⟩ := bnd_ H
 by_cases c6 : t226 = 0
 ·
  rw [if_pos c6] at H
  have c6b0 : (t226 == 0) = true := beq_iff_eq.mpr c6
  have c6b1 : (t226 != 0) = false := bne_eq_false_iff_eq.mpr c6
  clear c6
  have HC7 := Aside0.mk H
  clear H
  go_enter Try.func13, Try.ntmps13
  go_upto_region 4 with (first | ((with_reducible refine gate_dst (N := 4) rfl ?_); refine box_event ?hg (N := 4) ?hd (cs := #[.int .i64 a0_0, .int .i64 a0_1]) (t := 23) ?hr ?_; (case hd | hg => rfl); (case hr => go_simp; done); intro gb225 hg w8 hbox hb; have BK225 := Aside0.mk (hbox); have GW225 := gw_ HB.out hg; have GE225 := gw_ HB.out hg; replace HB := Aside0.mk (below_step HB.out hb); clear hb hbox hg; have hcz9_0 := cz0_ BK225; have hcz9_1 := cz1_ BK225; have hfz9_0 := blk_frozen BK225.out 0; have hfz9_1 := blk_frozen BK225.out 1) | ((with_reducible refine gate_callee (f := 38) rfl ?_); refine goesL_ (some 16) rfl rfl Try.func38 (by kernel_rfl) rfl #[.agg #[.int .i64 a0_0, .int .i64 a0_1]] rfl (by (try simp only [List.map_toArray, List.map_cons, List.map_nil]); rfl) ?_; (with_reducible refine (hushref6_Loss.calls k a0_0 a0_1 t226 _ A5.out).mono ?_); rintro e w10 ⟨rfl, hb⟩; refine ⟨_, rfl, ?_⟩; replace BK225 := Aside0.mk (blk_below (g := gb225) (o := .cells #[.int .i64 a0_0, .int .i64 a0_1] 23 (0, 0)) (by (with_reducible repeat (first | refine blk_drewN ?_ _ | refine blk_drew ?_ | refine blk_alloc ?_ _)); exact BK225.out) hb); replace HB := Aside0.mk (below_step HB.out hb); (try clear hb)))
  go_cut [36] (fun v36 wc => ∃ (kq : Nat) (x36_6 : Bool), v36 = .bool x36_6 ∧ Aside0 (hushref6_Hide.j0 kq a1 a2 a3 x36_6 a0_0 a0_1 = some (r1, r2)) ∧ Aside0 (kq ≤ k) ∧ Aside0 (wc.heap[gb225]? = some (.cells #[.int .i64 a0_0, .int .i64 a0_1] 23 (0, 0))) ∧ Aside0 (Below w.heap.size w wc))
  case first =>
   have H := HC7.out
   clear HC7
   by_cases c11 : a1 < (-1073741824)
   ·
    rw [if_pos c11] at H
    have c11b0 : decide (a1 < (-1073741824)) = true := decide_eq_true c11
    clear c11
    have H' := Aside0.mk H
    clear H
    go_wp2
    go_meet
    case rel => exact ⟨_, (true), rfl, H', ⟨by omega⟩, ⟨by (with_reducible repeat (first | refine blk_drewN ?_ _ | refine blk_drew ?_ | refine blk_alloc ?_ _)); exact BK225.out⟩, ⟨HB.out⟩⟩
   ·
    rw [if_neg c11] at H
    have c11b0 : decide (a1 < (-1073741824)) = false := decide_eq_false c11
    clear c11
    by_cases c12 : a2 > 1073741824
    ·
     rw [if_pos c12] at H
     have c12b0 : decide (1073741824 < a2) = true := decide_eq_true c12
     clear c12
     have H' := Aside0.mk H
     clear H
     go_wp2
     go_meet
     case rel => exact ⟨_, (true), rfl, H', ⟨by omega⟩, ⟨by (with_reducible repeat (first | refine blk_drewN ?_ _ | refine blk_drew ?_ | refine blk_alloc ?_ _)); exact BK225.out⟩, ⟨HB.out⟩⟩
    ·
     rw [if_neg c12] at H
     have c12b0 : decide (1073741824 < a2) = false := decide_eq_false c12
     clear c12
     by_cases c13 : a2 < a1
     ·
      rw [if_pos c13] at H
      have c13b0 : decide (a2 < a1) = true := decide_eq_true c13
      clear c13
      have H' := Aside0.mk H
      clear H
      go_wp2
      go_meet
      case rel => exact ⟨_, (true), rfl, H', ⟨by omega⟩, ⟨by (with_reducible repeat (first | refine blk_drewN ?_ _ | refine blk_drew ?_ | refine blk_alloc ?_ _)); exact BK225.out⟩, ⟨HB.out⟩⟩
     ·
      rw [if_neg c13] at H
      have c13b0 : decide (a2 < a1) = false := decide_eq_false c13
      clear c13
      have H' := Aside0.mk H
      clear H
      go_wp2
      go_meet
      case rel => exact ⟨_, (decide (a2 > (wrap64 (a1 + 64)))), rfl, H', ⟨by omega⟩, ⟨by (with_reducible repeat (first | refine blk_drewN ?_ _ | refine blk_drew ?_ | refine blk_alloc ?_ _)); exact BK225.out⟩, ⟨HB.out⟩⟩
  case rest =>
   clear HC7
   try clear c6b0
   try clear c6b1
   try clear hcz9_0
   try clear hcz9_1
   try clear hfz9_0
   try clear hfz9_1
   obtain ⟨kq, x36_6, rfl, HA, HJ6, BK225, HB⟩ := hcut
   cases kq with
   | zero => exact absurd HA.out (by simp [hushref6_Hide.j0])
   | succ kj6 =>
    have H := HA.out
    clear HA
    simp only [hushref6_Hide.j0] at H
    by_cases c14 : x36_6 = true
    ·
     subst c14
     rw [if_pos rfl] at H
     simp only [Option.some.injEq, Prod.mk.injEq] at H
     obtain ⟨rfl, rfl⟩ := H
     go_wp2
     go_ret2
     exact ⟨_, rfl, by exact Kd.N_nil _ _ _ _ _, HB.out⟩
    ·
     replace c14 := Bool.eq_false_iff.mpr c14
     subst c14
     rw [if_neg (show ¬ (false = true) by decide)] at H
     by_cases c15 : a1 = a2
     ·
      rw [if_pos c15] at H
      have c15b0 : (a1 == a2) = true := beq_iff_eq.mpr c15
      have c15b1 : (a1 != a2) = false := bne_eq_false_iff_eq.mpr c15
      clear c15
      obtain ⟨y227, hy227⟩ : ∃ y_ : List Int, y_ = (([a1] : List Int)) := ⟨_, rfl⟩
      replace H : ((hushref2_Make.f kj6 (([(⟨y227, 1⟩ : S64)] : List (S64)))).bind fun bt233 => (some (bt233.1, bt233.2))) = some (r1, r2) := by (rw [hy227]; with_reducible exact H)
      have Ny227 := Aside0.mk hy227
      clear hy227
      obtain ⟨y230, hy230⟩ : ∃ y_ : List (S64), y_ = (([(⟨y227, 1⟩ : S64)] : List (S64))) := ⟨_, rfl⟩
      replace H : ((hushref2_Make.f kj6 y230).bind fun bt233 => (some (bt233.1, bt233.2))) = some (r1, r2) := by (rw [hy230]; with_reducible exact H)
      have Ny230 := Aside0.mk hy230
      clear hy230
      obtain ⟨⟨t233, t236⟩, A16, H⟩ := bnd_ H
      dsimp only at H
      simp only [Option.some.injEq, Prod.mk.injEq] at H
      obtain ⟨rfl, rfl⟩ := H
      go_wp2_with (first | ((with_reducible refine gate_dst (N := 41) rfl ?_); refine Kd.R_lit (Kd.int .i64) _ 3 ?hg (N := 41) ?hd (xs := ([a1] : List Int)) (inner := [.int .i64 a1]) (ok := fun _ => True) (okp := fun _ => True) ?hr ?hp (fun _ hk => hk) trivial (Below.refl _ _) (Nat.le_refl _) (by simp) ?_; (case hd | hg => rfl); (case hr => go_simp; done); (case hp => exact (Reps.one (show Kd.M (Kd.int .i64) _ _ _ a1 [.int .i64 a1] from rfl) (Reps.none _ _))); intro v228 w17 ho18 hb hg_ hnew_; clear hg_ hnew_; (rw [← Ny227.out] at ho18); have HO229 := Aside0.mk (Kd.R_lower (Kd.R_newM (M := fun k_ => (w.heap.size ≤ k_)) ho18 (below_size HB.out) (fun k_ h_ => h_)) (below_size HB.out)); replace BK225 := Aside0.mk (blk_below (g := gb225) (o := .cells #[.int .i64 a0_0, .int .i64 a0_1] 23 (0, 0)) (by (with_reducible repeat (first | refine blk_drewN ?_ _ | refine blk_drew ?_ | refine blk_alloc ?_ _)); exact BK225.out) hb); replace HB := Aside0.mk (below_step HB.out hb); clear hb ho18; obtain ⟨Ao19, co19, eo19⟩ := Kd.R_slice HO229.out; subst eo19) | ((with_reducible refine gate_dst (N := 43) rfl ?_); refine Kd.N_lit k64 _ 64 ?hg (N' := 43) ?hd (xs := ([(⟨y227, 1⟩ : S64)] : List (S64))) (inner := [.slice Ao19 y227.length co19, .int .i64 1]) (ok := (fun k_ => (w.heap.size ≤ k_) ∧ k_ ≠ gb225)) (okp := (fun k_ => (w.heap.size ≤ k_) ∧ k_ ≠ gb225)) ?hr ?hp (fun _ hk => hk) ((show ∀ k_, w17.heap.size ≤ k_ → (fun k_ => (w.heap.size ≤ k_) ∧ k_ ≠ gb225) k_ from fun k_ hk => ⟨(Nat.le_trans (below_size HB.out) hk), Kd.freshB (g := gb225) (o := .cells #[.int .i64 a0_0, .int .i64 a0_1] 23 (0, 0)) (by (with_reducible repeat (first | refine blk_drewN ?_ _ | refine blk_drew ?_ | refine blk_alloc ?_ _)); exact BK225.out) k_ hk⟩) _ (Nat.le_refl _)) (Below.refl _ _) (Nat.le_refl _) (by simp) ?_; (case hd | hg => rfl); (case hr => go_simp; done); (case hp => exact (Reps.c2 (show Kd.FK k64 _ _ (⟨y227, 1⟩ : S64) [.slice Ao19 y227.length co19, .int .i64 1] from (k64_mkF _ _ (⟨y227, 1⟩ : S64) (Kd.R_reads' (Kd.R_mono (ok' := (fun k_ => (w.heap.size ≤ k_) ∧ k_ ≠ gb225)) (Kd.R_types (HO229.out) BK225.out (by decide)) (fun k_ hk => ⟨hk.1.1, hk.2⟩))).2.1 (Kd.R_F (Kd.R_mono (ok' := (fun k_ => (w.heap.size ≤ k_) ∧ k_ ≠ gb225)) (Kd.R_types (HO229.out) BK225.out (by decide)) (fun k_ hk => ⟨hk.1.1, hk.2⟩))))) (Reps.none _ _))); intro v231 w20 ho21 hb hg_ hnew_; clear hg_ hnew_; (rw [← Ny230.out] at ho21); have HO232 := Aside0.mk (Kd.N_lower ho21 (below_size HB.out)); replace BK225 := Aside0.mk (blk_below (g := gb225) (o := .cells #[.int .i64 a0_0, .int .i64 a0_1] 23 (0, 0)) (by (with_reducible repeat (first | refine blk_drewN ?_ _ | refine blk_drew ?_ | refine blk_alloc ?_ _)); exact BK225.out) hb); replace HB := Aside0.mk (below_step HB.out hb); clear HO229; clear hb ho21; obtain ⟨Ao22, co22, eo22⟩ := Kd.N_slice HO232.out; subst eo22) | ((with_reducible refine gate_callee (f := 39) rfl ?_); refine goesL_ (some 44) rfl rfl Try.func39 (by kernel_rfl) rfl #[.slice Ao22 y230.length co22] rfl (by (try simp only [List.map_toArray, List.map_cons, List.map_nil]); rfl) ?_; (with_reducible refine (hushref2_Make.calls kj6 (fun k_ => ((w.heap.size ≤ k_) ∧ k_ ≠ gb225)) _ _ y230 t233 t236 _ ?side1 A16.out).mono ?_); (case side1 => exact Kd.N_V (HO232.out)); rintro e w23 ⟨v234, rfl, ho0, hb⟩; refine ⟨_, rfl, ?_⟩; replace HO232 := Aside0.mk (Kd.N_elder' (by (with_reducible repeat (first | apply Kd.N_alloc | apply Kd.N_drewN | apply Kd.N_drew)); exact HO232.out) (Kd.N_base ho0) hb); have HO235 := Aside0.mk (Kd.N_lower (Kd.N_mono (ok' := fun k_ => (w.heap.size ≤ k_) ∧ k_ ≠ gb225) ho0 (fun k_ hk_ => ⟨Or.elim hk_ (fun hs_ => hs_.1) (fun hn_ => (Nat.le_trans (below_size HB.out) hn_)), Or.elim hk_ (fun hs_ => hs_.2) (fun hn_ => (Kd.freshB (g := gb225) (o := .cells #[.int .i64 a0_0, .int .i64 a0_1] 23 (0, 0)) (by (with_reducible repeat (first | refine blk_drewN ?_ _ | refine blk_drew ?_ | refine blk_alloc ?_ _)); exact BK225.out) k_ hn_))⟩)) (below_size HB.out)); replace BK225 := Aside0.mk (blk_below (g := gb225) (o := .cells #[.int .i64 a0_0, .int .i64 a0_1] 23 (0, 0)) (by (with_reducible repeat (first | refine blk_drewN ?_ _ | refine blk_drew ?_ | refine blk_alloc ?_ _)); exact BK225.out) hb); replace HB := Aside0.mk (below_step HB.out hb); (try clear hb); (try clear ho0)))
      go_ret2
      exact ⟨_, rfl, by (with_reducible repeat (first | apply Kd.N_alloc | apply Kd.N_drewN | apply Kd.N_drew)); exact Kd.N_mono HO235.out (fun _ hk => hk.1), HB.out⟩
     ·
      rw [if_neg c15] at H
      have c15b0 : (a1 == a2) = false := beq_eq_false_iff_ne.mpr c15
      have c15b1 : (a1 != a2) = true := bne_iff_ne.mpr c15
      have HC24 := Aside0.mk H
      clear H
      go_upto_region 8 with (fail)
      go_cut [68] (fun v68 wc => ∃ (kq : Nat) (x68_23 : Bool), v68 = .bool x68_23 ∧ Aside0 (hushref6_Hide.j1 kq a1 a2 a3 x68_23 a0_0 a0_1 = some (r1, r2)) ∧ Aside0 (kq ≤ kj6) ∧ Aside0 (wc.heap[gb225]? = some (.cells #[.int .i64 a0_0, .int .i64 a0_1] 23 (0, 0))) ∧ Aside0 (Below w.heap.size w wc))
      case first =>
       have H := HC24.out
       clear HC24
       obtain ⟨t237, A25, H⟩ := bnd_ H
       by_cases c26 : t237 > 1073741824
       ·
        rw [if_pos c26] at H
        have c26b0 : decide (1073741824 < t237) = true := decide_eq_true c26
        clear c26
        have H' := Aside0.mk H
        clear H
        try go_wp2
        replace BK225 := Aside0.mk (blk_drew BK225.out)
        replace HB := Aside0.mk (below_drew1 HB.out)
        refine start_ (n := 22) (S := fun w' => w'.cell? ⟨gb225, 0, none⟩ = some (.int .i64 a0_0) ∧ w'.cell? ⟨gb225, 1, none⟩ = some (.int .i64 a0_1)) (ds := []) #[false, false, false, false, false, false, false, false, false, false, false, false, false, false, false, false, false, false, false, false, false, false] (by kernel_rfl) rfl rfl ⟨(blk_cell BK225.out 0).trans rfl, (blk_cell BK225.out 1).trans rfl⟩ (fun hHeld => ?_); refine with_tabW hushref6_Hide.tab8 hushref6_Hide.bits8 (fun HT_ HW_ => ?_)
        generalize wc.drew = w27 at BK225 HB hHeld ⊢
        refine pure_ (i := 0) (N := some 47) #[true, false, false, false, false, false, false, false, false, false, false, false, false, false, false, false, false, false, false, false, false, false] rfl rfl (any_of HT_.out (by kernel_rfl)) (fun _ _ _ h => h) (Or.inl ⟨rfl, by intro w'; go_simp; with_reducible rfl⟩) (by simp only [Act.put, List.setIfInBounds_toArray, List.set_cons_zero, List.set_cons_succ, i64_w, i32_w]; rfl) ?_
        refine pure_ (i := 2) (N := some 49) #[true, false, true, false, false, false, false, false, false, false, false, false, false, false, false, false, false, false, false, false, false, false] rfl rfl (any_of HT_.out (by kernel_rfl)) (fun _ _ _ h => h) (Or.inl ⟨rfl, by intro w'; go_simp; with_reducible rfl⟩) (by simp only [Act.put, List.setIfInBounds_toArray, List.set_cons_zero, List.set_cons_succ, i64_w, i32_w]; rfl) ?_
        refine pure_ (i := 3) (N := some 50) #[true, false, true, true, false, false, false, false, false, false, false, false, false, false, false, false, false, false, false, false, false, false] rfl rfl (any_of HT_.out (by kernel_rfl)) (fun _ _ _ h => h) (Or.inl ⟨rfl, by intro w'; go_simp; with_reducible rfl⟩) (by simp only [Act.put, List.setIfInBounds_toArray, List.set_cons_zero, List.set_cons_succ, i64_w, i32_w]; rfl) ?_
        refine pure_ (i := 4) (N := some 51) #[true, false, true, true, true, false, false, false, false, false, false, false, false, false, false, false, false, false, false, false, false, false] rfl rfl (any_of HT_.out (by kernel_rfl)) (fun _ _ _ h => h) (Or.inl ⟨rfl, by intro w'; go_simp; with_reducible rfl⟩) (by simp only [Act.put, List.setIfInBounds_toArray, List.set_cons_zero, List.set_cons_succ, i64_w, i32_w]; rfl) ?_
        refine take_ (i := 1) (N := some 48) #[true, true, true, true, true, false, false, false, false, false, false, false, false, false, false, false, false, false, false, false, false, false] rfl rfl (take_ofW HT_.out HW_.out (by kernel_rfl)) (fun _ _ _ h => h) (Or.inl ⟨rfl, by rintro w' ⟨s0, s1⟩; go_simp; with_reducible rfl⟩) hHeld (by simp only [Act.put, List.setIfInBounds_toArray, List.set_cons_zero, List.set_cons_succ, i64_w, i32_w]; rfl) ?_
        refine one_ (i := 5) (N := some 52) #[true, true, true, true, true, true, false, false, false, false, false, false, false, false, false, false, false, false, false, false, false, false] rfl rfl (one_of HT_.out (by kernel_rfl)) (by decide) (fun K hK => ?_)
        refine goes_ Try.func40 (by kernel_rfl) rfl #[.int .i64 a0_0, .int .i64 (wrap64 (a2 - a1))] rfl rfl rfl (by (try simp only [List.map_toArray, List.map_cons, List.map_nil]); rfl) ?_
        with_reducible refine (hushref6_Power.calls kj6 a0_0 (wrap64 (a2 - a1)) t237 _ A25.out).mono ?_
        rintro e w' ⟨rfl, ⟨nd, rfl⟩⟩
        refine ⟨_, rfl, ?_⟩
        refine hK.out _ _ ⟨(blk_cell BK225.out 0).trans rfl, (blk_cell BK225.out 1).trans rfl⟩ (fun hHeld => ?_)
        clear hK K
        refine norm_ (a' := ?_) ?_ ?_
        rotate_left
        ·
         show Act.put _ (some 52) _ = _
         simp only [Act.put, List.setIfInBounds_toArray, List.set_cons_zero, List.set_cons_succ, i64_w, i32_w]
         rfl
        refine pure_ (i := 6) (N := some 53) #[true, true, true, true, true, true, true, false, false, false, false, false, false, false, false, false, false, false, false, false, false, false] rfl rfl (any_of HT_.out (by kernel_rfl)) (fun _ _ _ h => h) (Or.inl ⟨rfl, by intro w'; go_simp; with_reducible rfl⟩) (by simp only [Act.put, List.setIfInBounds_toArray, List.set_cons_zero, List.set_cons_succ, i64_w, i32_w]; rfl) ?_
        refine pure_ (i := 7) (N := some 54) #[true, true, true, true, true, true, true, true, false, false, false, false, false, false, false, false, false, false, false, false, false, false] rfl rfl (any_of HT_.out (by kernel_rfl)) (fun _ _ _ h => h) (Or.inl ⟨rfl, by intro w'; go_simp; with_reducible rfl⟩) (by simp only [Act.put, List.setIfInBounds_toArray, List.set_cons_zero, List.set_cons_succ, i64_w, i32_w]; rfl) ?_
        refine pure_ (i := 8) (N := some 55) (v := undef) (a' := ?_) #[true, true, true, true, true, true, true, true, true, false, false, false, false, false, false, false, false, false, false, false, false, false] rfl rfl (any_of HT_.out (by kernel_rfl)) (fun _ _ _ h => h) (Or.inr ⟨rfl, rfl⟩) ?_ ?_
        rotate_left
        ·
         simp only [Act.put, List.setIfInBounds_toArray, List.set_cons_zero, List.set_cons_succ, i64_w, i32_w]
         rfl
        refine pure_ (i := 9) (N := some 56) (v := undef) (a' := ?_) #[true, true, true, true, true, true, true, true, true, true, false, false, false, false, false, false, false, false, false, false, false, false] rfl rfl (any_of HT_.out (by kernel_rfl)) (fun _ _ _ h => h) (Or.inr ⟨rfl, rfl⟩) ?_ ?_
        rotate_left
        ·
         simp only [Act.put, List.setIfInBounds_toArray, List.set_cons_zero, List.set_cons_succ, i64_w, i32_w]
         rfl
        refine pure_ (i := 10) (N := some 57) (v := undef) (a' := ?_) #[true, true, true, true, true, true, true, true, true, true, true, false, false, false, false, false, false, false, false, false, false, false] rfl rfl (any_of HT_.out (by kernel_rfl)) (fun _ _ _ h => h) (Or.inr ⟨rfl, rfl⟩) ?_ ?_
        rotate_left
        ·
         simp only [Act.put, List.setIfInBounds_toArray, List.set_cons_zero, List.set_cons_succ, i64_w, i32_w]
         rfl
        refine pure_ (i := 11) (N := some 58) (v := undef) (a' := ?_) #[true, true, true, true, true, true, true, true, true, true, true, true, false, false, false, false, false, false, false, false, false, false] rfl rfl (any_of HT_.out (by kernel_rfl)) (fun _ _ _ h => h) (Or.inr ⟨rfl, rfl⟩) ?_ ?_
        rotate_left
        ·
         simp only [Act.put, List.setIfInBounds_toArray, List.set_cons_zero, List.set_cons_succ, i64_w, i32_w]
         rfl
        refine pure_ (i := 12) (N := some 59) (v := undef) (a' := ?_) #[true, true, true, true, true, true, true, true, true, true, true, true, true, false, false, false, false, false, false, false, false, false] rfl rfl (any_of HT_.out (by kernel_rfl)) (fun _ _ _ h => h) (Or.inr ⟨rfl, rfl⟩) ?_ ?_
        rotate_left
        ·
         simp only [Act.put, List.setIfInBounds_toArray, List.set_cons_zero, List.set_cons_succ, i64_w, i32_w]
         rfl
        refine pure_ (i := 13) (N := some 60) (v := undef) (a' := ?_) #[true, true, true, true, true, true, true, true, true, true, true, true, true, true, false, false, false, false, false, false, false, false] rfl rfl (any_of HT_.out (by kernel_rfl)) (fun _ _ _ h => h) (Or.inr ⟨rfl, rfl⟩) ?_ ?_
        rotate_left
        ·
         simp only [Act.put, List.setIfInBounds_toArray, List.set_cons_zero, List.set_cons_succ, i64_w, i32_w]
         rfl
        refine pure_ (i := 14) (N := some 61) (v := undef) (a' := ?_) #[true, true, true, true, true, true, true, true, true, true, true, true, true, true, true, false, false, false, false, false, false, false] rfl rfl (any_of HT_.out (by kernel_rfl)) (fun _ _ _ h => h) (Or.inr ⟨rfl, rfl⟩) ?_ ?_
        rotate_left
        ·
         simp only [Act.put, List.setIfInBounds_toArray, List.set_cons_zero, List.set_cons_succ, i64_w, i32_w]
         rfl
        refine pure_ (i := 15) (N := some 62) (v := undef) (a' := ?_) #[true, true, true, true, true, true, true, true, true, true, true, true, true, true, true, true, false, false, false, false, false, false] rfl rfl (any_of HT_.out (by kernel_rfl)) (fun _ _ _ h => h) (Or.inr ⟨rfl, rfl⟩) ?_ ?_
        rotate_left
        ·
         simp only [Act.put, List.setIfInBounds_toArray, List.set_cons_zero, List.set_cons_succ, i64_w, i32_w]
         rfl
        refine pure_ (i := 16) (N := some 63) (v := undef) (a' := ?_) #[true, true, true, true, true, true, true, true, true, true, true, true, true, true, true, true, true, false, false, false, false, false] rfl rfl (any_of HT_.out (by kernel_rfl)) (fun _ _ _ h => h) (Or.inr ⟨rfl, rfl⟩) ?_ ?_
        rotate_left
        ·
         simp only [Act.put, List.setIfInBounds_toArray, List.set_cons_zero, List.set_cons_succ, i64_w, i32_w]
         rfl
        refine pure_ (i := 17) (N := some 64) (v := undef) (a' := ?_) #[true, true, true, true, true, true, true, true, true, true, true, true, true, true, true, true, true, true, false, false, false, false] rfl rfl (any_of HT_.out (by kernel_rfl)) (fun _ _ _ h => h) (Or.inr ⟨rfl, rfl⟩) ?_ ?_
        rotate_left
        ·
         simp only [Act.put, List.setIfInBounds_toArray, List.set_cons_zero, List.set_cons_succ, i64_w, i32_w]
         rfl
        refine pure_ (i := 18) (N := some 65) (v := undef) (a' := ?_) #[true, true, true, true, true, true, true, true, true, true, true, true, true, true, true, true, true, true, true, false, false, false] rfl rfl (any_of HT_.out (by kernel_rfl)) (fun _ _ _ h => h) (Or.inr ⟨rfl, rfl⟩) ?_ ?_
        rotate_left
        ·
         simp only [Act.put, List.setIfInBounds_toArray, List.set_cons_zero, List.set_cons_succ, i64_w, i32_w]
         rfl
        refine pure_ (i := 19) (N := some 66) (v := undef) (a' := ?_) #[true, true, true, true, true, true, true, true, true, true, true, true, true, true, true, true, true, true, true, true, false, false] rfl rfl (any_of HT_.out (by kernel_rfl)) (fun _ _ _ h => h) (Or.inr ⟨rfl, rfl⟩) ?_ ?_
        rotate_left
        ·
         simp only [Act.put, List.setIfInBounds_toArray, List.set_cons_zero, List.set_cons_succ, i64_w, i32_w]
         rfl
        refine pure_ (i := 20) (N := some 67) (v := undef) (a' := ?_) #[true, true, true, true, true, true, true, true, true, true, true, true, true, true, true, true, true, true, true, true, true, false] rfl rfl (any_of HT_.out (by kernel_rfl)) (fun _ _ _ h => h) (Or.inr ⟨rfl, rfl⟩) ?_ ?_
        rotate_left
        ·
         simp only [Act.put, List.setIfInBounds_toArray, List.set_cons_zero, List.set_cons_succ, i64_w, i32_w]
         rfl
        refine pure_ (i := 21) (N := some 68) #[true, true, true, true, true, true, true, true, true, true, true, true, true, true, true, true, true, true, true, true, true, true] rfl rfl (any_of HT_.out (by kernel_rfl)) (fun _ _ _ h => h) (Or.inl ⟨rfl, by intro w'; go_simp; with_reducible rfl⟩) (by simp only [Act.put, List.setIfInBounds_toArray, List.set_cons_zero, List.set_cons_succ, i64_w, i32_w]; rfl) ?_
        refine done_ (done_of HT_.out (by kernel_rfl)) ?_
        try go_wp2
        go_meet
        case rel => exact ⟨_, (true), rfl, H', ⟨by have := HJ6.out; omega⟩, ⟨by (with_reducible repeat (refine blk_drewN ?_ _)); exact BK225.out⟩, ⟨by repeat (with_reducible first | exact HB.out | apply pw_below_drewN)⟩⟩
       ·
        rw [if_neg c26] at H
        have c26b0 : decide (1073741824 < t237) = false := decide_eq_false c26
        clear c26
        obtain ⟨t238, A28, H⟩ := bnd_ H
        have H' := Aside0.mk H
        clear H
        try go_wp2
        replace BK225 := Aside0.mk (blk_drew BK225.out)
        replace HB := Aside0.mk (below_drew1 HB.out)
        refine start_ (n := 22) (S := fun w' => w'.cell? ⟨gb225, 0, none⟩ = some (.int .i64 a0_0) ∧ w'.cell? ⟨gb225, 1, none⟩ = some (.int .i64 a0_1)) (ds := []) #[false, false, false, false, false, false, false, false, false, false, false, false, false, false, false, false, false, false, false, false, false, false] (by kernel_rfl) rfl rfl ⟨(blk_cell BK225.out 0).trans rfl, (blk_cell BK225.out 1).trans rfl⟩ (fun hHeld => ?_); refine with_tabW hushref6_Hide.tab8 hushref6_Hide.bits8 (fun HT_ HW_ => ?_)
        generalize wc.drew = w29 at BK225 HB hHeld ⊢
        refine pure_ (i := 0) (N := some 47) #[true, false, false, false, false, false, false, false, false, false, false, false, false, false, false, false, false, false, false, false, false, false] rfl rfl (any_of HT_.out (by kernel_rfl)) (fun _ _ _ h => h) (Or.inl ⟨rfl, by intro w'; go_simp; with_reducible rfl⟩) (by simp only [Act.put, List.setIfInBounds_toArray, List.set_cons_zero, List.set_cons_succ, i64_w, i32_w]; rfl) ?_
        refine pure_ (i := 2) (N := some 49) #[true, false, true, false, false, false, false, false, false, false, false, false, false, false, false, false, false, false, false, false, false, false] rfl rfl (any_of HT_.out (by kernel_rfl)) (fun _ _ _ h => h) (Or.inl ⟨rfl, by intro w'; go_simp; with_reducible rfl⟩) (by simp only [Act.put, List.setIfInBounds_toArray, List.set_cons_zero, List.set_cons_succ, i64_w, i32_w]; rfl) ?_
        refine pure_ (i := 3) (N := some 50) #[true, false, true, true, false, false, false, false, false, false, false, false, false, false, false, false, false, false, false, false, false, false] rfl rfl (any_of HT_.out (by kernel_rfl)) (fun _ _ _ h => h) (Or.inl ⟨rfl, by intro w'; go_simp; with_reducible rfl⟩) (by simp only [Act.put, List.setIfInBounds_toArray, List.set_cons_zero, List.set_cons_succ, i64_w, i32_w]; rfl) ?_
        refine pure_ (i := 4) (N := some 51) #[true, false, true, true, true, false, false, false, false, false, false, false, false, false, false, false, false, false, false, false, false, false] rfl rfl (any_of HT_.out (by kernel_rfl)) (fun _ _ _ h => h) (Or.inl ⟨rfl, by intro w'; go_simp; with_reducible rfl⟩) (by simp only [Act.put, List.setIfInBounds_toArray, List.set_cons_zero, List.set_cons_succ, i64_w, i32_w]; rfl) ?_
        refine take_ (i := 1) (N := some 48) #[true, true, true, true, true, false, false, false, false, false, false, false, false, false, false, false, false, false, false, false, false, false] rfl rfl (take_ofW HT_.out HW_.out (by kernel_rfl)) (fun _ _ _ h => h) (Or.inl ⟨rfl, by rintro w' ⟨s0, s1⟩; go_simp; with_reducible rfl⟩) hHeld (by simp only [Act.put, List.setIfInBounds_toArray, List.set_cons_zero, List.set_cons_succ, i64_w, i32_w]; rfl) ?_
        refine one_ (i := 5) (N := some 52) #[true, true, true, true, true, true, false, false, false, false, false, false, false, false, false, false, false, false, false, false, false, false] rfl rfl (one_of HT_.out (by kernel_rfl)) (by decide) (fun K hK => ?_)
        refine goes_ Try.func40 (by kernel_rfl) rfl #[.int .i64 a0_0, .int .i64 (wrap64 (a2 - a1))] rfl rfl rfl (by (try simp only [List.map_toArray, List.map_cons, List.map_nil]); rfl) ?_
        with_reducible refine (hushref6_Power.calls kj6 a0_0 (wrap64 (a2 - a1)) t237 _ A25.out).mono ?_
        rintro e w' ⟨rfl, ⟨nd, rfl⟩⟩
        refine ⟨_, rfl, ?_⟩
        refine hK.out _ _ ⟨(blk_cell BK225.out 0).trans rfl, (blk_cell BK225.out 1).trans rfl⟩ (fun hHeld => ?_)
        clear hK K
        refine norm_ (a' := ?_) ?_ ?_
        rotate_left
        ·
         show Act.put _ (some 52) _ = _
         simp only [Act.put, List.setIfInBounds_toArray, List.set_cons_zero, List.set_cons_succ, i64_w, i32_w]
         rfl
        refine pure_ (i := 6) (N := some 53) #[true, true, true, true, true, true, true, false, false, false, false, false, false, false, false, false, false, false, false, false, false, false] rfl rfl (any_of HT_.out (by kernel_rfl)) (fun _ _ _ h => h) (Or.inl ⟨rfl, by intro w'; go_simp; with_reducible rfl⟩) (by simp only [Act.put, List.setIfInBounds_toArray, List.set_cons_zero, List.set_cons_succ, i64_w, i32_w]; rfl) ?_
        refine pure_ (i := 7) (N := some 54) #[true, true, true, true, true, true, true, true, false, false, false, false, false, false, false, false, false, false, false, false, false, false] rfl rfl (any_of HT_.out (by kernel_rfl)) (fun _ _ _ h => h) (Or.inl ⟨rfl, by intro w'; go_simp; with_reducible rfl⟩) (by simp only [Act.put, List.setIfInBounds_toArray, List.set_cons_zero, List.set_cons_succ, i64_w, i32_w]; rfl) ?_
        refine pure_ (i := 8) (N := some 55) #[true, true, true, true, true, true, true, true, true, false, false, false, false, false, false, false, false, false, false, false, false, false] rfl rfl (any_of HT_.out (by kernel_rfl)) (fun _ _ _ h => h) (Or.inl ⟨rfl, by intro w'; go_simp; with_reducible rfl⟩) (by simp only [Act.put, List.setIfInBounds_toArray, List.set_cons_zero, List.set_cons_succ, i64_w, i32_w]; rfl) ?_
        refine pure_ (i := 10) (N := some 57) #[true, true, true, true, true, true, true, true, true, false, true, false, false, false, false, false, false, false, false, false, false, false] rfl rfl (any_of HT_.out (by kernel_rfl)) (fun _ _ _ h => h) (Or.inl ⟨rfl, by intro w'; go_simp; with_reducible rfl⟩) (by simp only [Act.put, List.setIfInBounds_toArray, List.set_cons_zero, List.set_cons_succ, i64_w, i32_w]; rfl) ?_
        refine pure_ (i := 11) (N := some 58) #[true, true, true, true, true, true, true, true, true, false, true, true, false, false, false, false, false, false, false, false, false, false] rfl rfl (any_of HT_.out (by kernel_rfl)) (fun _ _ _ h => h) (Or.inl ⟨rfl, by intro w'; go_simp; with_reducible rfl⟩) (by simp only [Act.put, List.setIfInBounds_toArray, List.set_cons_zero, List.set_cons_succ, i64_w, i32_w]; rfl) ?_
        refine pure_ (i := 12) (N := some 59) #[true, true, true, true, true, true, true, true, true, false, true, true, true, false, false, false, false, false, false, false, false, false] rfl rfl (any_of HT_.out (by kernel_rfl)) (fun _ _ _ h => h) (Or.inl ⟨rfl, by intro w'; go_simp; with_reducible rfl⟩) (by simp only [Act.put, List.setIfInBounds_toArray, List.set_cons_zero, List.set_cons_succ, i64_w, i32_w]; rfl) ?_
        refine pure_ (i := 14) (N := some 61) #[true, true, true, true, true, true, true, true, true, false, true, true, true, false, true, false, false, false, false, false, false, false] rfl rfl (any_of HT_.out (by kernel_rfl)) (fun _ _ _ h => h) (Or.inl ⟨rfl, by intro w'; go_simp; with_reducible rfl⟩) (by simp only [Act.put, List.setIfInBounds_toArray, List.set_cons_zero, List.set_cons_succ, i64_w, i32_w]; rfl) ?_
        refine pure_ (i := 16) (N := some 63) #[true, true, true, true, true, true, true, true, true, false, true, true, true, false, true, false, true, false, false, false, false, false] rfl rfl (any_of HT_.out (by kernel_rfl)) (fun _ _ _ h => h) (Or.inl ⟨rfl, by intro w'; go_simp; with_reducible rfl⟩) (by simp only [Act.put, List.setIfInBounds_toArray, List.set_cons_zero, List.set_cons_succ, i64_w, i32_w]; rfl) ?_
        refine take_ (i := 9) (N := some 56) #[true, true, true, true, true, true, true, true, true, true, true, true, true, false, true, false, true, false, false, false, false, false] rfl rfl (take_ofW HT_.out HW_.out (by kernel_rfl)) (fun _ _ _ h => h) (Or.inl ⟨rfl, by rintro w' ⟨s0, s1⟩; go_simp; with_reducible rfl⟩) hHeld (by simp only [Act.put, List.setIfInBounds_toArray, List.set_cons_zero, List.set_cons_succ, i64_w, i32_w]; rfl) ?_
        refine take_ (i := 15) (N := some 62) #[true, true, true, true, true, true, true, true, true, true, true, true, true, false, true, true, true, false, false, false, false, false] rfl rfl (take_ofW HT_.out HW_.out (by kernel_rfl)) (fun _ _ _ h => h) (Or.inl ⟨rfl, by rintro w' ⟨s0, s1⟩; go_simp; with_reducible rfl⟩) hHeld (by simp only [Act.put, List.setIfInBounds_toArray, List.set_cons_zero, List.set_cons_succ, i64_w, i32_w]; rfl) ?_
        refine take_ (i := 17) (N := some 64) #[true, true, true, true, true, true, true, true, true, true, true, true, true, false, true, true, true, true, false, false, false, false] rfl rfl (take_ofW HT_.out HW_.out (by kernel_rfl)) (fun _ _ _ h => h) (Or.inl ⟨rfl, by rintro w' ⟨s0, s1⟩; go_simp; with_reducible rfl⟩) hHeld (by simp only [Act.put, List.setIfInBounds_toArray, List.set_cons_zero, List.set_cons_succ, i64_w, i32_w]; rfl) ?_
        refine pure_ (i := 18) (N := some 65) #[true, true, true, true, true, true, true, true, true, true, true, true, true, false, true, true, true, true, true, false, false, false] rfl rfl (any_of HT_.out (by kernel_rfl)) (fun _ _ _ h => h) (Or.inl ⟨rfl, by intro w'; go_simp; with_reducible rfl⟩) (by simp only [Act.put, List.setIfInBounds_toArray, List.set_cons_zero, List.set_cons_succ, i64_w, i32_w]; rfl) ?_
        refine one_ (i := 13) (N := some 60) #[true, true, true, true, true, true, true, true, true, true, true, true, true, true, true, true, true, true, true, false, false, false] rfl rfl (one_of HT_.out (by kernel_rfl)) (by decide) (fun K hK => ?_)
        refine goes_ Try.func40 (by kernel_rfl) rfl #[.int .i64 a0_0, .int .i64 (wrap64 (a2 - a1))] rfl rfl rfl (by (try simp only [List.map_toArray, List.map_cons, List.map_nil]); rfl) ?_
        with_reducible refine (hushref6_Power.calls kj6 a0_0 (wrap64 (a2 - a1)) t238 _ A28.out).mono ?_
        rintro e w' ⟨rfl, ⟨nd, rfl⟩⟩
        refine ⟨_, rfl, ?_⟩
        refine hK.out _ _ ⟨(blk_cell BK225.out 0).trans rfl, (blk_cell BK225.out 1).trans rfl⟩ (fun hHeld => ?_)
        clear hK K
        refine norm_ (a' := ?_) ?_ ?_
        rotate_left
        ·
         show Act.put _ (some 60) _ = _
         simp only [Act.put, List.setIfInBounds_toArray, List.set_cons_zero, List.set_cons_succ, i64_w, i32_w]
         rfl
        refine pure_ (i := 19) (N := some 66) #[true, true, true, true, true, true, true, true, true, true, true, true, true, true, true, true, true, true, true, true, false, false] rfl rfl (any_of HT_.out (by kernel_rfl)) (fun _ _ _ h => h) (Or.inl ⟨rfl, by intro w'; go_simp; with_reducible rfl⟩) (by simp only [Act.put, List.setIfInBounds_toArray, List.set_cons_zero, List.set_cons_succ, i64_w, i32_w]; rfl) ?_
        refine pure_ (i := 20) (N := some 67) #[true, true, true, true, true, true, true, true, true, true, true, true, true, true, true, true, true, true, true, true, true, false] rfl rfl (any_of HT_.out (by kernel_rfl)) (fun _ _ _ h => h) (Or.inl ⟨rfl, by intro w'; go_simp; with_reducible rfl⟩) (by simp only [Act.put, List.setIfInBounds_toArray, List.set_cons_zero, List.set_cons_succ, i64_w, i32_w]; rfl) ?_
        refine pure_ (i := 21) (N := some 68) #[true, true, true, true, true, true, true, true, true, true, true, true, true, true, true, true, true, true, true, true, true, true] rfl rfl (any_of HT_.out (by kernel_rfl)) (fun _ _ _ h => h) (Or.inl ⟨rfl, by intro w'; go_simp; with_reducible rfl⟩) (by simp only [Act.put, List.setIfInBounds_toArray, List.set_cons_zero, List.set_cons_succ, i64_w, i32_w]; rfl) ?_
        refine done_ (done_of HT_.out (by kernel_rfl)) ?_
        try go_wp2
        go_meet
        case rel => exact ⟨_, (decide ((wrap64 (t238 * (wrap64 (a0_0 + a0_1)))) > 1073741824)), rfl, H', ⟨by have := HJ6.out; omega⟩, ⟨by (with_reducible repeat (refine blk_drewN ?_ _)); exact BK225.out⟩, ⟨by repeat (with_reducible first | exact HB.out | apply pw_below_drewN)⟩⟩
      case rest =>
       clear HC24
       try clear c15
       try clear c15b0
       try clear c15b1
       obtain ⟨kq, x68_23, rfl, HA, HJ23, BK225, HB⟩ := hcut
       cases kq with
       | zero => exact absurd HA.out (by simp [hushref6_Hide.j1])
       | succ kj23 =>
        have H := HA.out
        clear HA
        simp only [hushref6_Hide.j1] at H
        by_cases c30 : x68_23 = true
        ·
         subst c30
         rw [if_pos rfl] at H
         simp only [Option.some.injEq, Prod.mk.injEq] at H
         obtain ⟨rfl, rfl⟩ := H
         go_wp2
         go_ret2
         exact ⟨_, rfl, by exact Kd.N_nil _ _ _ _ _, HB.out⟩
        ·
         replace c30 := Bool.eq_false_iff.mpr c30
         subst c30
         rw [if_neg (show ¬ (false = true) by decide)] at H
         have HC31 := Aside0.mk H
         clear H
         go_upto_if 71 with (fail)
         go_cut [3] (fun v3 wc => ∃ (kq : Nat) (x3_30 : Int), v3 = .int .i64 x3_30 ∧ Aside0 (hushref6_Hide.j2 kq a1 a2 x3_30 a0_0 a0_1 = some (r1, r2)) ∧ Aside0 (kq ≤ kj23) ∧ Aside0 (wc.heap[gb225]? = some (.cells #[.int .i64 a0_0, .int .i64 a0_1] 23 (0, 0))) ∧ Aside0 (Below w.heap.size w wc))
         case first =>
          have H := HC31.out
          clear HC31
          by_cases c32 : a3 < a1
          ·
           rw [if_pos c32] at H
           have c32b0 : decide (a3 < a1) = true := decide_eq_true c32
           clear c32
           (rw [c32b0])
           have H' := Aside0.mk H
           clear H
           go_wp2
           go_meet
           case rel => exact ⟨_, (a1), rfl, H', ⟨by have := HJ6.out; have := HJ23.out; omega⟩, ⟨by (with_reducible repeat (first | refine blk_drewN ?_ _ | refine blk_drew ?_ | refine blk_alloc ?_ _)); exact BK225.out⟩, ⟨HB.out⟩⟩
          ·
           rw [if_neg c32] at H
           have c32b0 : decide (a3 < a1) = false := decide_eq_false c32
           clear c32
           (rw [c32b0])
           have H' := Aside0.mk H
           clear H
           go_wp2
           go_meet
           case rel => exact ⟨_, (a3), rfl, H', ⟨by have := HJ6.out; have := HJ23.out; omega⟩, ⟨by (with_reducible repeat (first | refine blk_drewN ?_ _ | refine blk_drew ?_ | refine blk_alloc ?_ _)); exact BK225.out⟩, ⟨HB.out⟩⟩
         case rest =>
          clear HC31
          obtain ⟨kq, x3_30, rfl, HA, HJ30, BK225, HB⟩ := hcut
          cases kq with
          | zero => exact absurd HA.out (by simp [hushref6_Hide.j2])
          | succ kj30 =>
           have H := HA.out
           clear HA
           simp only [hushref6_Hide.j2] at H
           have HC33 := Aside0.mk H
           clear H
           go_upto_if 75 with (fail)
           go_cut [3] (fun v3 wc => ∃ (kq : Nat) (x3_32 : Int), v3 = .int .i64 x3_32 ∧ Aside0 (hushref6_Hide.j3 kq a1 a2 x3_32 a0_0 a0_1 = some (r1, r2)) ∧ Aside0 (kq ≤ kj30) ∧ Aside0 (wc.heap[gb225]? = some (.cells #[.int .i64 a0_0, .int .i64 a0_1] 23 (0, 0))) ∧ Aside0 (Below w.heap.size w wc))
           case first =>
            have H := HC33.out
            clear HC33
            by_cases c34 : x3_30 > a2
            ·
             rw [if_pos c34] at H
             have c34b0 : decide (a2 < x3_30) = true := decide_eq_true c34
             clear c34
             (rw [c34b0])
             have H' := Aside0.mk H
             clear H
             go_wp2
             go_meet
             case rel => exact ⟨_, (a2), rfl, H', ⟨by have := HJ6.out; have := HJ23.out; have := HJ30.out; omega⟩, ⟨by (with_reducible repeat (first | refine blk_drewN ?_ _ | refine blk_drew ?_ | refine blk_alloc ?_ _)); exact BK225.out⟩, ⟨HB.out⟩⟩
            ·
             rw [if_neg c34] at H
             have c34b0 : decide (a2 < x3_30) = false := decide_eq_false c34
             clear c34
             (rw [c34b0])
             have H' := Aside0.mk H
             clear H
             go_wp2
             go_meet
             case rel => exact ⟨_, (x3_30), rfl, H', ⟨by have := HJ6.out; have := HJ23.out; have := HJ30.out; omega⟩, ⟨by (with_reducible repeat (first | refine blk_drewN ?_ _ | refine blk_drew ?_ | refine blk_alloc ?_ _)); exact BK225.out⟩, ⟨HB.out⟩⟩
           case rest =>
            clear HC33
            obtain ⟨kq, x3_32, rfl, HA, HJ32, BK225, HB⟩ := hcut
            cases kq with
            | zero => exact absurd HA.out (by simp [hushref6_Hide.j3])
            | succ kj32 =>
             have H := HA.out
             clear HA
             simp only [hushref6_Hide.j3] at H
             have H' := Aside0.mk H
             clear H
             go_wp2
             go_loopg [11, 12] kj32 (fun kq v11 v12 w' => ∃ (x11_5 : List (S64)) (x12_5 : Int), v12 = .int .i64 x12_5 ∧ Aside0 (hushref6_Hide.l0 kq a1 a2 x3_32 x11_5 x12_5 a0_0 a0_1 = some (r1, r2)) ∧ Aside0 (kq ≤ kj32) ∧ Aside0 (Kd.N k64 64 w' w.heap.size (fun k_ => (w.heap.size ≤ k_) ∧ k_ ≠ gb225) v11 x11_5) ∧ Aside0 (w'.heap[gb225]? = some (.cells #[.int .i64 a0_0, .int .i64 a0_1] 23 (0, 0))) ∧ Aside0 (Below w.heap.size w w'))
             case atStart => exact ⟨(([] : List (S64))), (a1), rfl, H', ⟨Nat.le_refl _⟩, ⟨by exact Kd.N_nil _ _ _ _ _⟩, ⟨by (with_reducible repeat (first | refine blk_drewN ?_ _ | refine blk_drew ?_ | refine blk_alloc ?_ _)); exact BK225.out⟩, ⟨HB.out⟩⟩
             case round =>
              clear H'
              obtain ⟨x11_5, x12_5, rfl, HA, HK5, HO_11, BK225, HB⟩ := hrel
              cases gk with
              | zero => exact absurd HA.out (by simp [hushref6_Hide.l0])
              | succ k5 =>
               have H := HA.out
               clear HA
               simp only [hushref6_Hide.l0] at H
               by_cases c35 : x12_5 ≤ a2
               ·
                rw [if_pos c35] at H
                have c35b0 : decide (x12_5 ≤ a2) = true := decide_eq_true c35
                clear c35
                have HC36 := Aside0.mk H
                clear H
                go_upto_if 87 with (fail)
                go_cut [13] (fun v13 wc => ∃ (kq : Nat) (x13_35 : Int), v13 = .int .i64 x13_35 ∧ Aside0 (hushref6_Hide.j5 kq a1 a2 x3_32 x11_5 x12_5 x13_35 a0_0 a0_1 = some (r1, r2)) ∧ Aside0 (kq ≤ k5) ∧ Aside0 (Kd.N k64 64 wc w.heap.size (fun k_ => (w.heap.size ≤ k_) ∧ k_ ≠ gb225) u11 x11_5) ∧ Aside0 (wc.heap[gb225]? = some (.cells #[.int .i64 a0_0, .int .i64 a0_1] 23 (0, 0))) ∧ Aside0 (Below w.heap.size w wc))
                case first =>
                 have H := HC36.out
                 clear HC36
                 by_cases c37 : (wrap64 (x12_5 - x3_32)) < 0
                 ·
                  rw [if_pos c37] at H
                  have c37b0 : decide ((wrap64 (x12_5 - x3_32)) < 0) = true := decide_eq_true c37
                  clear c37
                  (rw [c37b0])
                  have H' := Aside0.mk H
                  clear H
                  go_wp2
                  go_meet
                  case rel => exact ⟨_, (wrap64 (-(wrap64 (x12_5 - x3_32)))), rfl, H', ⟨by have := HJ6.out; have := HJ23.out; have := HJ30.out; have := HJ32.out; have := HK5.out; omega⟩, ⟨by (with_reducible repeat (first | apply Kd.N_alloc | apply Kd.N_drewN | apply Kd.N_drew)); exact HO_11.out⟩, ⟨by (with_reducible repeat (first | refine blk_drewN ?_ _ | refine blk_drew ?_ | refine blk_alloc ?_ _)); exact BK225.out⟩, ⟨HB.out⟩⟩
                 ·
                  rw [if_neg c37] at H
                  have c37b0 : decide ((wrap64 (x12_5 - x3_32)) < 0) = false := decide_eq_false c37
                  clear c37
                  (rw [c37b0])
                  have H' := Aside0.mk H
                  clear H
                  go_wp2
                  go_meet
                  case rel => exact ⟨_, (wrap64 (x12_5 - x3_32)), rfl, H', ⟨by have := HJ6.out; have := HJ23.out; have := HJ30.out; have := HJ32.out; have := HK5.out; omega⟩, ⟨by (with_reducible repeat (first | apply Kd.N_alloc | apply Kd.N_drewN | apply Kd.N_drew)); exact HO_11.out⟩, ⟨by (with_reducible repeat (first | refine blk_drewN ?_ _ | refine blk_drew ?_ | refine blk_alloc ?_ _)); exact BK225.out⟩, ⟨HB.out⟩⟩
                case rest =>
                 clear HC36
                 try clear c35b0
                 obtain ⟨kq, x13_35, rfl, HA, HJ35, HO_11, BK225, HB⟩ := hcut
                 cases kq with
                 | zero => exact absurd HA.out (by simp [hushref6_Hide.j5])
                 | succ kj35 =>
                  have H := HA.out
                  clear HA
                  simp only [hushref6_Hide.j5] at H
                  have HC38 := Aside0.mk H
                  clear H
                  have hcz39_0 := cz0_ BK225
                  have hcz39_1 := cz1_ BK225
                  have hfz39_0 := blk_frozen BK225.out 0
                  have hfz39_1 := blk_frozen BK225.out 1
                  go_upto_region 22 with (fail)
                  go_cut [102] (fun v102 wc => ∃ (kq : Nat) (x102_37 : Bool), v102 = .bool x102_37 ∧ Aside0 (hushref6_Hide.j6 kq a1 a2 x3_32 x11_5 x12_5 x13_35 (wrap64 (a0_0 - a0_1)) x102_37 a0_0 a0_1 = some (r1, r2)) ∧ Aside0 (kq ≤ kj35) ∧ Aside0 (Kd.N k64 64 wc w.heap.size (fun k_ => (w.heap.size ≤ k_) ∧ k_ ≠ gb225) u11 x11_5) ∧ Aside0 (wc.heap[gb225]? = some (.cells #[.int .i64 a0_0, .int .i64 a0_1] 23 (0, 0))) ∧ Aside0 (Below w.heap.size w wc))
                  case first =>
                   have H := HC38.out
                   clear HC38
                   by_cases c40 : x12_5 = a1
                   ·
                    rw [if_pos c40] at H
                    have c40b0 : (x12_5 == a1) = true := beq_iff_eq.mpr c40
                    have c40b1 : (x12_5 != a1) = false := bne_eq_false_iff_eq.mpr c40
                    clear c40
                    have H' := Aside0.mk H
                    clear H
                    go_wp2
                    go_meet
                    case rel => exact ⟨_, (true), rfl, H', ⟨by have := HJ6.out; have := HJ23.out; have := HJ30.out; have := HJ32.out; have := HK5.out; have := HJ35.out; omega⟩, ⟨by (with_reducible repeat (first | apply Kd.N_alloc | apply Kd.N_drewN | apply Kd.N_drew)); exact HO_11.out⟩, ⟨by (with_reducible repeat (first | refine blk_drewN ?_ _ | refine blk_drew ?_ | refine blk_alloc ?_ _)); exact BK225.out⟩, ⟨HB.out⟩⟩
                   ·
                    rw [if_neg c40] at H
                    have c40b0 : (x12_5 == a1) = false := beq_eq_false_iff_ne.mpr c40
                    have c40b1 : (x12_5 != a1) = true := bne_iff_ne.mpr c40
                    have H' := Aside0.mk H
                    clear H
                    go_wp2
                    go_meet
                    case rel => exact ⟨_, ((x12_5 == a2)), rfl, H', ⟨by have := HJ6.out; have := HJ23.out; have := HJ30.out; have := HJ32.out; have := HK5.out; have := HJ35.out; omega⟩, ⟨by (with_reducible repeat (first | apply Kd.N_alloc | apply Kd.N_drewN | apply Kd.N_drew)); exact HO_11.out⟩, ⟨by (with_reducible repeat (first | refine blk_drewN ?_ _ | refine blk_drew ?_ | refine blk_alloc ?_ _)); exact BK225.out⟩, ⟨HB.out⟩⟩
                  case rest =>
                   clear HC38
                   try clear hcz39_0
                   try clear hcz39_1
                   try clear hfz39_0
                   try clear hfz39_1
                   obtain ⟨kq, x102_37, rfl, HA, HJ37, HO_11, BK225, HB⟩ := hcut
                   cases kq with
                   | zero => exact absurd HA.out (by simp [hushref6_Hide.j6])
                   | succ kj37 =>
                    have H := HA.out
                    clear HA
                    simp only [hushref6_Hide.j6] at H
                    by_cases c41 : x102_37 = true
                    ·
                     subst c41
                     rw [if_pos rfl] at H
                     obtain ⟨y243, hy243⟩ : ∃ y_ : List Int, y_ = (([x12_5] : List Int)) := ⟨_, rfl⟩
                     replace H : ((hushref6_Power.f kj37 a0_1 x13_35).bind fun t246 => ((hushref6_Power.f kj37 a0_0 (wrap64 ((wrap64 (a2 - a1)) - x13_35))).bind fun t247 => (if x11_5.length < 4398046511104 then (hushref6_Hide.l0 kj37 a1 a2 x3_32 (x11_5 ++ [(⟨y243, wrap64 ((wrap64 (a0_0 * t246)) * t247)⟩ : S64)]) (wrap64 (x12_5 + 1)) a0_0 a0_1) else (none)))) = some (r1, r2) := by (rw [hy243]; with_reducible exact H)
                     have Ny243 := Aside0.mk hy243
                     clear hy243
                     obtain ⟨t246, A42, H⟩ := bnd_ H
                     obtain ⟨t247, A43, H⟩ := bnd_ H
                     by_cases c44 : x11_5.length < 4398046511104
                     ·
                      rw [if_pos c44] at H
                      have LMc44 := Aside0.mk c44
                      clear c44
                      obtain ⟨y248, hy248⟩ : ∃ y_ : List (S64), y_ = (x11_5 ++ [(⟨y243, wrap64 ((wrap64 (a0_0 * t246)) * t247)⟩ : S64)]) := ⟨_, rfl⟩
                      replace H : (hushref6_Hide.l0 kj37 a1 a2 x3_32 y248 (wrap64 (x12_5 + 1)) a0_0 a0_1) = some (r1, r2) := by (rw [hy248]; with_reducible exact H)
                      have Ny248 := Aside0.mk hy248
                      clear hy248
                      have H' := Aside0.mk H
                      clear H
                      have hcz45_0 := cz0_ BK225
                      have hcz45_1 := cz1_ BK225
                      have hfz45_0 := blk_frozen BK225.out 0
                      have hfz45_1 := blk_frozen BK225.out 1
                      obtain ⟨Ao46, co46, eo46⟩ := Kd.N_slice HO_11.out
                      subst eo46
                      try go_wp2
                      replace HO_11 := Aside0.mk (Kd.N_drew HO_11.out)
                      replace BK225 := Aside0.mk (blk_drew BK225.out)
                      replace HB := Aside0.mk (below_drew1 HB.out)
                      refine start_ (n := 22) (S := fun w' => w'.cell? ⟨gb225, 0, none⟩ = some (.int .i64 a0_0) ∧ w'.cell? ⟨gb225, 1, none⟩ = some (.int .i64 a0_1)) (ds := []) #[false, false, false, false, false, false, false, false, false, false, false, false, false, false, false, false, false, false, false, false, false, false] (by kernel_rfl) rfl rfl ⟨(blk_cell BK225.out 0).trans rfl, (blk_cell BK225.out 1).trans rfl⟩ (fun hHeld => ?_); refine with_tabW hushref6_Hide.tab24 hushref6_Hide.bits24 (fun HT_ HW_ => ?_)
                      generalize wc.drew = w47 at HO_11 BK225 HB hHeld ⊢
                      refine pure_ (i := 0) (N := some 105) #[true, false, false, false, false, false, false, false, false, false, false, false, false, false, false, false, false, false, false, false, false, false] rfl rfl (any_of HT_.out (by kernel_rfl)) (fun _ _ _ h => h) (Or.inl ⟨rfl, by intro w'; go_simp; with_reducible rfl⟩) (by simp only [Act.put, List.setIfInBounds_toArray, List.set_cons_zero, List.set_cons_succ, i64_w, i32_w]; rfl) ?_
                      refine pure_ (i := 1) (N := some 106) #[true, true, false, false, false, false, false, false, false, false, false, false, false, false, false, false, false, false, false, false, false, false] rfl rfl (any_of HT_.out (by kernel_rfl)) (fun _ _ _ h => h) (Or.inl ⟨rfl, by intro w'; go_simp; with_reducible rfl⟩) (by simp only [Act.put, List.setIfInBounds_toArray, List.set_cons_zero, List.set_cons_succ, i64_w, i32_w]; rfl) ?_
                      refine pure_ (i := 3) (N := some 108) #[true, true, false, true, false, false, false, false, false, false, false, false, false, false, false, false, false, false, false, false, false, false] rfl rfl (any_of HT_.out (by kernel_rfl)) (fun _ _ _ h => h) (Or.inl ⟨rfl, by intro w'; go_simp; with_reducible rfl⟩) (by simp only [Act.put, List.setIfInBounds_toArray, List.set_cons_zero, List.set_cons_succ, i64_w, i32_w]; rfl) ?_
                      refine pure_ (i := 4) (N := some 109) #[true, true, false, true, true, false, false, false, false, false, false, false, false, false, false, false, false, false, false, false, false, false] rfl rfl (any_of HT_.out (by kernel_rfl)) (fun _ _ _ h => h) (Or.inl ⟨rfl, by intro w'; go_simp; with_reducible rfl⟩) (by simp only [Act.put, List.setIfInBounds_toArray, List.set_cons_zero, List.set_cons_succ, i64_w, i32_w]; rfl) ?_
                      refine pure_ (i := 6) (N := some 111) #[true, true, false, true, true, false, true, false, false, false, false, false, false, false, false, false, false, false, false, false, false, false] rfl rfl (any_of HT_.out (by kernel_rfl)) (fun _ _ _ h => h) (Or.inl ⟨rfl, by intro w'; go_simp; with_reducible rfl⟩) (by simp only [Act.put, List.setIfInBounds_toArray, List.set_cons_zero, List.set_cons_succ, i64_w, i32_w]; rfl) ?_
                      refine pure_ (i := 9) (N := some 114) #[true, true, false, true, true, false, true, false, false, true, false, false, false, false, false, false, false, false, false, false, false, false] rfl rfl (any_of HT_.out (by kernel_rfl)) (fun _ _ _ h => h) (Or.inl ⟨rfl, by intro w'; go_simp; with_reducible rfl⟩) (by simp only [Act.put, List.setIfInBounds_toArray, List.set_cons_zero, List.set_cons_succ, i64_w, i32_w]; rfl) ?_
                      refine pure_ (i := 11) (N := some 116) #[true, true, false, true, true, false, true, false, false, true, false, true, false, false, false, false, false, false, false, false, false, false] rfl rfl (any_of HT_.out (by kernel_rfl)) (fun _ _ _ h => h) (Or.inl ⟨rfl, by intro w'; go_simp; with_reducible rfl⟩) (by simp only [Act.put, List.setIfInBounds_toArray, List.set_cons_zero, List.set_cons_succ, i64_w, i32_w]; rfl) ?_
                      refine pure_ (i := 12) (N := some 117) #[true, true, false, true, true, false, true, false, false, true, false, true, true, false, false, false, false, false, false, false, false, false] rfl rfl (any_of HT_.out (by kernel_rfl)) (fun _ _ _ h => h) (Or.inl ⟨rfl, by intro w'; go_simp; with_reducible rfl⟩) (by simp only [Act.put, List.setIfInBounds_toArray, List.set_cons_zero, List.set_cons_succ, i64_w, i32_w]; rfl) ?_
                      refine pure_ (i := 13) (N := some 118) #[true, true, false, true, true, false, true, false, false, true, false, true, true, true, false, false, false, false, false, false, false, false] rfl rfl (any_of HT_.out (by kernel_rfl)) (fun _ _ _ h => h) (Or.inl ⟨rfl, by intro w'; go_simp; with_reducible rfl⟩) (by simp only [Act.put, List.setIfInBounds_toArray, List.set_cons_zero, List.set_cons_succ, i64_w, i32_w]; rfl) ?_
                      refine pure_ (i := 14) (N := some 119) #[true, true, false, true, true, false, true, false, false, true, false, true, true, true, true, false, false, false, false, false, false, false] rfl rfl (any_of HT_.out (by kernel_rfl)) (fun _ _ _ h => h) (Or.inl ⟨rfl, by intro w'; go_simp; with_reducible rfl⟩) (by simp only [Act.put, List.setIfInBounds_toArray, List.set_cons_zero, List.set_cons_succ, i64_w, i32_w]; rfl) ?_
                      refine pure_ (i := 15) (N := some 120) #[true, true, false, true, true, false, true, false, false, true, false, true, true, true, true, true, false, false, false, false, false, false] rfl rfl (any_of HT_.out (by kernel_rfl)) (fun _ _ _ h => h) (Or.inl ⟨rfl, by intro w'; go_simp; with_reducible rfl⟩) (by simp only [Act.put, List.setIfInBounds_toArray, List.set_cons_zero, List.set_cons_succ, i64_w, i32_w]; rfl) ?_
                      refine take_ (i := 5) (N := some 110) #[true, true, false, true, true, true, true, false, false, true, false, true, true, true, true, true, false, false, false, false, false, false] rfl rfl (take_ofW HT_.out HW_.out (by kernel_rfl)) (fun _ _ _ h => h) (Or.inl ⟨rfl, by rintro w' ⟨s0, s1⟩; go_simp; with_reducible rfl⟩) hHeld (by simp only [Act.put, List.setIfInBounds_toArray, List.set_cons_zero, List.set_cons_succ, i64_w, i32_w]; rfl) ?_
                      refine take_ (i := 10) (N := some 115) #[true, true, false, true, true, true, true, false, false, true, true, true, true, true, true, true, false, false, false, false, false, false] rfl rfl (take_ofW HT_.out HW_.out (by kernel_rfl)) (fun _ _ _ h => h) (Or.inl ⟨rfl, by rintro w' ⟨s0, s1⟩; go_simp; with_reducible rfl⟩) hHeld (by simp only [Act.put, List.setIfInBounds_toArray, List.set_cons_zero, List.set_cons_succ, i64_w, i32_w]; rfl) ?_
                      refine join_ (σ := Value) 4 #[true, true, true, true, true, true, true, true, true, true, true, true, true, true, true, true, true, true, false, false, false, false] (fun s_ => [(107, s_), (112, .int .i64 t246), (121, .int .i64 t247), (113, .int .i64 (wrap64 (a0_0 * t246))), (122, .int .i64 (wrap64 ((wrap64 (a0_0 * t246)) * t247)))]) (fun s_ w' => (w'.cell? ⟨gb225, 0, none⟩ = some (.int .i64 a0_0) ∧ w'.cell? ⟨gb225, 1, none⟩ = some (.int .i64 a0_1)) ∧ (Kd.R (Kd.int .i64) 3 w' w.heap.size (fun k_ => (w.heap.size ≤ k_)) s_ y243) ∧ (Kd.N k64 64 w' w.heap.size (fun k_ => (w.heap.size ≤ k_) ∧ some k_ ≠ (s_ : Value).ownBlock ∧ k_ ≠ gb225) (.slice Ao46 x11_5.length co46) x11_5) ∧ (w'.heap[gb225]? = some (.cells #[.int .i64 a0_0, .int .i64 a0_1] 23 (0, 0))) ∧ (Below w.heap.size w w')) ?_ ?_
                      rotate_left
                      ·
                       intro hCont
                       refine two_ (i := 2) (j := 7) (Ni := some 107) (Nj := some 112) #[true, true, true, true, true, true, true, false, false, true, true, true, true, true, true, true, false, false, false, false, false, false] #[true, true, false, true, true, true, true, true, false, true, true, true, true, true, true, true, false, false, false, false, false, false] rfl rfl rfl rfl (two_of HT_.out (by kernel_rfl)) (by decide) (by decide) (fun K hK => ?_) (fun K hK => ?_)
                       ·
                        skip
                        refine Kd.R_lit_step (Kd.int .i64) _ 3 ?hg (N := 107) ?hd (xs := ([x12_5] : List Int)) (inner := [.int .i64 x12_5]) (ok := fun _ => True) (okp := fun _ => True) ?hr ?hp (fun _ hk => hk) trivial (Below.refl _ _) (Nat.le_refl _) (by simp) ?_; (case hd | hg => rfl); (case hr => go_simp; done); (case hp => exact (Reps.one (show Kd.M (Kd.int .i64) _ _ _ x12_5 [.int .i64 x12_5] from rfl) (Reps.none _ _)))
                        intro v244 w48 ho49 hb hg_ hnew_
                        clear hg_ hnew_
                        (rw [← Ny243.out] at ho49)
                        replace HO_11 := Aside0.mk (Kd.N_elder' (by (with_reducible repeat (first | apply Kd.N_alloc | apply Kd.N_drewN | apply Kd.N_drew)); exact HO_11.out) (Kd.R_base ho49) hb)
                        have HO245 := Aside0.mk (Kd.R_lower (Kd.R_newM (M := fun k_ => (w.heap.size ≤ k_)) ho49 (below_size HB.out) (fun k_ h_ => h_)) (below_size HB.out))
                        replace BK225 := Aside0.mk (blk_below (g := gb225) (o := .cells #[.int .i64 a0_0, .int .i64 a0_1] 23 (0, 0)) (by (with_reducible repeat (first | refine blk_drewN ?_ _ | refine blk_drew ?_ | refine blk_alloc ?_ _)); exact BK225.out) hb)
                        replace HB := Aside0.mk (below_step HB.out hb)
                        clear hb ho49
                        refine hK.out _ _ ⟨(blk_cell BK225.out 0).trans rfl, (blk_cell BK225.out 1).trans rfl⟩ (fun hHeld => ?_)
                        clear hK K
                        refine norm_ (a' := ?_) ?_ ?_
                        rotate_left
                        ·
                         show Act.put _ (some 107) _ = _
                         simp only [Act.put, List.setIfInBounds_toArray, List.set_cons_zero, List.set_cons_succ, i64_w, i32_w]
                         rfl
                        refine one_ (i := 7) (N := some 112) #[true, true, true, true, true, true, true, true, false, true, true, true, true, true, true, true, false, false, false, false, false, false] rfl rfl (one_of HT_.out (by kernel_rfl)) (by decide) (fun K hK => ?_)
                        refine goes_ Try.func40 (by kernel_rfl) rfl #[.int .i64 a0_1, .int .i64 x13_35] rfl rfl rfl (by (try simp only [List.map_toArray, List.map_cons, List.map_nil]); rfl) ?_
                        with_reducible refine (hushref6_Power.calls kj37 a0_1 x13_35 t246 _ A42.out).mono ?_
                        rintro e w' ⟨rfl, ⟨nd, rfl⟩⟩
                        refine ⟨_, rfl, ?_⟩
                        refine hK.out _ _ ⟨(blk_cell BK225.out 0).trans rfl, (blk_cell BK225.out 1).trans rfl⟩ (fun hHeld => ?_)
                        clear hK K
                        refine norm_ (a' := ?_) ?_ ?_
                        rotate_left
                        ·
                         show Act.put _ (some 112) _ = _
                         simp only [Act.put, List.setIfInBounds_toArray, List.set_cons_zero, List.set_cons_succ, i64_w, i32_w]
                         rfl
                        refine pure_ (i := 8) (N := some 113) #[true, true, true, true, true, true, true, true, true, true, true, true, true, true, true, true, false, false, false, false, false, false] rfl rfl (any_of HT_.out (by kernel_rfl)) (fun _ _ _ h => h) (Or.inl ⟨rfl, by intro w'; go_simp; with_reducible rfl⟩) (by simp only [Act.put, List.setIfInBounds_toArray, List.set_cons_zero, List.set_cons_succ, i64_w, i32_w]; rfl) ?_
                        refine one_ (i := 16) (N := some 121) #[true, true, true, true, true, true, true, true, true, true, true, true, true, true, true, true, true, false, false, false, false, false] rfl rfl (one_of HT_.out (by kernel_rfl)) (by decide) (fun K hK => ?_)
                        refine goes_ Try.func40 (by kernel_rfl) rfl #[.int .i64 a0_0, .int .i64 (wrap64 ((wrap64 (a2 - a1)) - x13_35))] rfl rfl rfl (by (try simp only [List.map_toArray, List.map_cons, List.map_nil]); rfl) ?_
                        with_reducible refine (hushref6_Power.calls kj37 a0_0 (wrap64 ((wrap64 (a2 - a1)) - x13_35)) t247 _ A43.out).mono ?_
                        rintro e w' ⟨rfl, ⟨nd, rfl⟩⟩
                        refine ⟨_, rfl, ?_⟩
                        obtain ⟨Ao50, co50, eo50⟩ := Kd.R_slice HO245.out
                        (subst eo50)
                        refine hK.out _ _ ⟨(blk_cell BK225.out 0).trans rfl, (blk_cell BK225.out 1).trans rfl⟩ (fun hHeld => ?_)
                        clear hK K
                        refine norm_ (a' := ?_) ?_ ?_
                        rotate_left
                        ·
                         show Act.put _ (some 121) _ = _
                         simp only [Act.put, List.setIfInBounds_toArray, List.set_cons_zero, List.set_cons_succ, i64_w, i32_w]
                         rfl
                        refine pure_ (i := 17) (N := some 122) #[true, true, true, true, true, true, true, true, true, true, true, true, true, true, true, true, true, true, false, false, false, false] rfl rfl (any_of HT_.out (by kernel_rfl)) (fun _ _ _ h => h) (Or.inl ⟨rfl, by intro w'; go_simp; with_reducible rfl⟩) (by simp only [Act.put, List.setIfInBounds_toArray, List.set_cons_zero, List.set_cons_succ, i64_w, i32_w]; rfl) ?_
                        exact norm_ (by simp only [putAll, Act.put, List.setIfInBounds_toArray, List.set_cons_zero, List.set_cons_succ]) (hCont (.slice Ao50 y243.length co50) _ ⟨hHeld, (by (with_reducible repeat (apply Kd.R_drewN)); exact Kd.R_mono HO245.out (fun _ hk => hk.1)), (by (with_reducible repeat (apply Kd.N_drewN)); exact Kd.N_mono HO_11.out (fun _ hk => ⟨hk.1.1, ⟨hk.2, hk.1.2⟩⟩)), (by (with_reducible repeat (refine blk_drewN ?_ _)); exact BK225.out), (by repeat (with_reducible first | exact HB.out | apply pw_below_drewN))⟩)
                       ·
                        skip
                        refine goes_ Try.func40 (by kernel_rfl) rfl #[.int .i64 a0_1, .int .i64 x13_35] rfl rfl rfl (by (try simp only [List.map_toArray, List.map_cons, List.map_nil]); rfl) ?_
                        with_reducible refine (hushref6_Power.calls kj37 a0_1 x13_35 t246 _ A42.out).mono ?_
                        rintro e w' ⟨rfl, ⟨nd, rfl⟩⟩
                        refine ⟨_, rfl, ?_⟩
                        refine hK.out _ _ ⟨(blk_cell BK225.out 0).trans rfl, (blk_cell BK225.out 1).trans rfl⟩ (fun hHeld => ?_)
                        clear hK K
                        refine norm_ (a' := ?_) ?_ ?_
                        rotate_left
                        ·
                         show Act.put _ (some 112) _ = _
                         simp only [Act.put, List.setIfInBounds_toArray, List.set_cons_zero, List.set_cons_succ, i64_w, i32_w]
                         rfl
                        refine pure_ (i := 8) (N := some 113) #[true, true, false, true, true, true, true, true, true, true, true, true, true, true, true, true, false, false, false, false, false, false] rfl rfl (any_of HT_.out (by kernel_rfl)) (fun _ _ _ h => h) (Or.inl ⟨rfl, by intro w'; go_simp; with_reducible rfl⟩) (by simp only [Act.put, List.setIfInBounds_toArray, List.set_cons_zero, List.set_cons_succ, i64_w, i32_w]; rfl) ?_
                        refine two_ (i := 2) (j := 16) (Ni := some 107) (Nj := some 121) #[true, true, true, true, true, true, true, true, true, true, true, true, true, true, true, true, false, false, false, false, false, false] #[true, true, false, true, true, true, true, true, true, true, true, true, true, true, true, true, true, false, false, false, false, false] rfl rfl rfl rfl (two_of HT_.out (by kernel_rfl)) (by decide) (by decide) (fun K hK => ?_) (fun K hK => ?_)
                        ·
                         skip
                         refine Kd.R_lit_step (Kd.int .i64) _ 3 ?hg (N := 107) ?hd (xs := ([x12_5] : List Int)) (inner := [.int .i64 x12_5]) (ok := fun _ => True) (okp := fun _ => True) ?hr ?hp (fun _ hk => hk) trivial (Below.refl _ _) (Nat.le_refl _) (by simp) ?_; (case hd | hg => rfl); (case hr => go_simp; done); (case hp => exact (Reps.one (show Kd.M (Kd.int .i64) _ _ _ x12_5 [.int .i64 x12_5] from rfl) (Reps.none _ _)))
                         intro v244 w48 ho49 hb hg_ hnew_
                         clear hg_ hnew_
                         (rw [← Ny243.out] at ho49)
                         replace HO_11 := Aside0.mk (Kd.N_elder' (by (with_reducible repeat (apply Kd.N_drewN)); exact HO_11.out) (Kd.R_base ho49) hb)
                         have HO245 := Aside0.mk (Kd.R_lower (Kd.R_newM (M := fun k_ => (w.heap.size ≤ k_)) ho49 (below_size (by repeat (with_reducible first | exact HB.out | apply pw_below_drewN))) (fun k_ h_ => h_)) (below_size (by repeat (with_reducible first | exact HB.out | apply pw_below_drewN))))
                         replace BK225 := Aside0.mk (blk_below (g := gb225) (o := .cells #[.int .i64 a0_0, .int .i64 a0_1] 23 (0, 0)) (by (with_reducible repeat (refine blk_drewN ?_ _)); exact BK225.out) hb)
                         replace HB := Aside0.mk (below_step (by repeat (with_reducible first | exact HB.out | apply pw_below_drewN)) hb)
                         clear hb ho49
                         refine hK.out _ _ ⟨(blk_cell BK225.out 0).trans rfl, (blk_cell BK225.out 1).trans rfl⟩ (fun hHeld => ?_)
                         clear hK K
                         refine norm_ (a' := ?_) ?_ ?_
                         rotate_left
                         ·
                          show Act.put _ (some 107) _ = _
                          simp only [Act.put, List.setIfInBounds_toArray, List.set_cons_zero, List.set_cons_succ, i64_w, i32_w]
                          rfl
                         refine one_ (i := 16) (N := some 121) #[true, true, true, true, true, true, true, true, true, true, true, true, true, true, true, true, true, false, false, false, false, false] rfl rfl (one_of HT_.out (by kernel_rfl)) (by decide) (fun K hK => ?_)
                         refine goes_ Try.func40 (by kernel_rfl) rfl #[.int .i64 a0_0, .int .i64 (wrap64 ((wrap64 (a2 - a1)) - x13_35))] rfl rfl rfl (by (try simp only [List.map_toArray, List.map_cons, List.map_nil]); rfl) ?_
                         with_reducible refine (hushref6_Power.calls kj37 a0_0 (wrap64 ((wrap64 (a2 - a1)) - x13_35)) t247 _ A43.out).mono ?_
                         rintro e w' ⟨rfl, ⟨nd, rfl⟩⟩
                         refine ⟨_, rfl, ?_⟩
                         obtain ⟨Ao50, co50, eo50⟩ := Kd.R_slice HO245.out
                         (subst eo50)
                         refine hK.out _ _ ⟨(blk_cell BK225.out 0).trans rfl, (blk_cell BK225.out 1).trans rfl⟩ (fun hHeld => ?_)
                         clear hK K
                         refine norm_ (a' := ?_) ?_ ?_
                         rotate_left
                         ·
                          show Act.put _ (some 121) _ = _
                          simp only [Act.put, List.setIfInBounds_toArray, List.set_cons_zero, List.set_cons_succ, i64_w, i32_w]
                          rfl
                         refine pure_ (i := 17) (N := some 122) #[true, true, true, true, true, true, true, true, true, true, true, true, true, true, true, true, true, true, false, false, false, false] rfl rfl (any_of HT_.out (by kernel_rfl)) (fun _ _ _ h => h) (Or.inl ⟨rfl, by intro w'; go_simp; with_reducible rfl⟩) (by simp only [Act.put, List.setIfInBounds_toArray, List.set_cons_zero, List.set_cons_succ, i64_w, i32_w]; rfl) ?_
                         exact norm_ (by simp only [putAll, Act.put, List.setIfInBounds_toArray, List.set_cons_zero, List.set_cons_succ]) (hCont (.slice Ao50 y243.length co50) _ ⟨hHeld, (by (with_reducible repeat (apply Kd.R_drewN)); exact Kd.R_mono HO245.out (fun _ hk => hk.1)), (by (with_reducible repeat (apply Kd.N_drewN)); exact Kd.N_mono HO_11.out (fun _ hk => ⟨hk.1.1, ⟨hk.2, hk.1.2⟩⟩)), (by (with_reducible repeat (refine blk_drewN ?_ _)); exact BK225.out), (by repeat (with_reducible first | exact HB.out | apply pw_below_drewN))⟩)
                        ·
                         skip
                         refine goes_ Try.func40 (by kernel_rfl) rfl #[.int .i64 a0_0, .int .i64 (wrap64 ((wrap64 (a2 - a1)) - x13_35))] rfl rfl rfl (by (try simp only [List.map_toArray, List.map_cons, List.map_nil]); rfl) ?_
                         with_reducible refine (hushref6_Power.calls kj37 a0_0 (wrap64 ((wrap64 (a2 - a1)) - x13_35)) t247 _ A43.out).mono ?_
                         rintro e w' ⟨rfl, ⟨nd, rfl⟩⟩
                         refine ⟨_, rfl, ?_⟩
                         refine hK.out _ _ ⟨(blk_cell BK225.out 0).trans rfl, (blk_cell BK225.out 1).trans rfl⟩ (fun hHeld => ?_)
                         clear hK K
                         refine norm_ (a' := ?_) ?_ ?_
                         rotate_left
                         ·
                          show Act.put _ (some 121) _ = _
                          simp only [Act.put, List.setIfInBounds_toArray, List.set_cons_zero, List.set_cons_succ, i64_w, i32_w]
                          rfl
                         refine pure_ (i := 17) (N := some 122) #[true, true, false, true, true, true, true, true, true, true, true, true, true, true, true, true, true, true, false, false, false, false] rfl rfl (any_of HT_.out (by kernel_rfl)) (fun _ _ _ h => h) (Or.inl ⟨rfl, by intro w'; go_simp; with_reducible rfl⟩) (by simp only [Act.put, List.setIfInBounds_toArray, List.set_cons_zero, List.set_cons_succ, i64_w, i32_w]; rfl) ?_
                         refine one_ (i := 2) (N := some 107) #[true, true, true, true, true, true, true, true, true, true, true, true, true, true, true, true, true, true, false, false, false, false] rfl rfl (one_of HT_.out (by kernel_rfl)) (by decide) (fun K hK => ?_)
                         refine Kd.R_lit_step (Kd.int .i64) _ 3 ?hg (N := 107) ?hd (xs := ([x12_5] : List Int)) (inner := [.int .i64 x12_5]) (ok := fun _ => True) (okp := fun _ => True) ?hr ?hp (fun _ hk => hk) trivial (Below.refl _ _) (Nat.le_refl _) (by simp) ?_; (case hd | hg => rfl); (case hr => go_simp; done); (case hp => exact (Reps.one (show Kd.M (Kd.int .i64) _ _ _ x12_5 [.int .i64 x12_5] from rfl) (Reps.none _ _)))
                         intro v244 w48 ho49 hb hg_ hnew_
                         clear hg_ hnew_
                         (rw [← Ny243.out] at ho49)
                         replace HO_11 := Aside0.mk (Kd.N_elder' (by (with_reducible repeat (apply Kd.N_drewN)); exact HO_11.out) (Kd.R_base ho49) hb)
                         have HO245 := Aside0.mk (Kd.R_lower (Kd.R_newM (M := fun k_ => (w.heap.size ≤ k_)) ho49 (below_size (by repeat (with_reducible first | exact HB.out | apply pw_below_drewN))) (fun k_ h_ => h_)) (below_size (by repeat (with_reducible first | exact HB.out | apply pw_below_drewN))))
                         replace BK225 := Aside0.mk (blk_below (g := gb225) (o := .cells #[.int .i64 a0_0, .int .i64 a0_1] 23 (0, 0)) (by (with_reducible repeat (refine blk_drewN ?_ _)); exact BK225.out) hb)
                         replace HB := Aside0.mk (below_step (by repeat (with_reducible first | exact HB.out | apply pw_below_drewN)) hb)
                         clear hb ho49
                         obtain ⟨Ao50, co50, eo50⟩ := Kd.R_slice HO245.out
                         (subst eo50)
                         refine hK.out _ _ ⟨(blk_cell BK225.out 0).trans rfl, (blk_cell BK225.out 1).trans rfl⟩ (fun hHeld => ?_)
                         clear hK K
                         refine norm_ (a' := ?_) ?_ ?_
                         rotate_left
                         ·
                          show Act.put _ (some 107) _ = _
                          simp only [Act.put, List.setIfInBounds_toArray, List.set_cons_zero, List.set_cons_succ, i64_w, i32_w]
                          rfl
                         exact norm_ (by simp only [putAll, Act.put, List.setIfInBounds_toArray, List.set_cons_zero, List.set_cons_succ]) (hCont (.slice Ao50 y243.length co50) _ ⟨hHeld, (by (with_reducible repeat (first | apply Kd.R_alloc | apply Kd.R_drewN | apply Kd.R_drew)); exact Kd.R_mono HO245.out (fun _ hk => hk.1)), (by (with_reducible repeat (first | apply Kd.N_alloc | apply Kd.N_drewN | apply Kd.N_drew)); exact Kd.N_mono HO_11.out (fun _ hk => ⟨hk.1.1, ⟨hk.2, hk.1.2⟩⟩)), (by (with_reducible repeat (first | refine blk_drewN ?_ _ | refine blk_drew ?_ | refine blk_alloc ?_ _)); exact BK225.out), HB.out⟩)
                      rintro v244 w51 ⟨hS_, h0_, h1_, h2_, h3_⟩
                      have n0_ : Aside0 (Kd.R (Kd.int .i64) 3 w51 w.heap.size (fun k_ => (w.heap.size ≤ k_)) v244 y243) := ⟨h0_⟩
                      have n1_ : Aside0 (Kd.N k64 64 w51 w.heap.size (fun k_ => (w.heap.size ≤ k_) ∧ some k_ ≠ (v244 : Value).ownBlock ∧ k_ ≠ gb225) (.slice Ao46 x11_5.length co46) x11_5) := ⟨h1_⟩
                      have n2_ : Aside0 (w51.heap[gb225]? = some (.cells #[.int .i64 a0_0, .int .i64 a0_1] 23 (0, 0))) := ⟨h2_⟩
                      have n3_ : Aside0 (Below w.heap.size w w51) := ⟨h3_⟩
                      clear HO_11
                      clear BK225
                      clear HB
                      clear h0_ h1_ h2_ h3_
                      have HO245 := n0_
                      have HO_11 := n1_
                      have BK225 := n2_
                      have HB := n3_
                      clear n0_ n1_ n2_ n3_
                      have hHeld : w51.cell? ⟨gb225, 0, none⟩ = some (.int .i64 a0_0) ∧ w51.cell? ⟨gb225, 1, none⟩ = some (.int .i64 a0_1) := hS_
                      obtain ⟨Ao52, co52, eo52⟩ := Kd.R_slice HO245.out
                      (subst eo52)
                      refine norm_ (a' := ?_) ?_ ?_
                      rotate_left
                      ·
                       simp only [putAll, Act.put, List.setIfInBounds_toArray, List.set_cons_zero, List.set_cons_succ]
                       rfl
                      refine pure_ (i := 18) (N := some 123) #[true, true, true, true, true, true, true, true, true, true, true, true, true, true, true, true, true, true, true, false, false, false] rfl rfl (any_of HT_.out (by kernel_rfl)) (fun _ _ _ h => h) (Or.inl ⟨rfl, by intro w'; go_simp; with_reducible rfl⟩) (by simp only [Act.put, List.setIfInBounds_toArray, List.set_cons_zero, List.set_cons_succ, i64_w, i32_w]; rfl) ?_
                      refine one_ (i := 19) (N := some 124) #[true, true, true, true, true, true, true, true, true, true, true, true, true, true, true, true, true, true, true, true, false, false] rfl rfl (one_of HT_.out (by kernel_rfl)) (by decide) (fun K hK => ?_)
                      refine value_ (w1 := ?_) (v := ?_) rfl rfl ?_ ?_
                      rotate_left 2
                      ·
                       go_simp
                       constructor
                       ·
                        rfl
                       ·
                        rfl
                      refine hK.out _ _ ⟨(blk_cell (blk_alloc BK225.out _) 0).trans rfl, (blk_cell (blk_alloc BK225.out _) 1).trans rfl⟩ (fun hHeld => ?_)
                      clear hK K
                      refine norm_ (a' := ?_) ?_ ?_
                      rotate_left
                      ·
                       show Act.put _ (some 124) _ = _
                       simp only [Act.put, List.setIfInBounds_toArray, List.set_cons_zero, List.set_cons_succ, i64_w, i32_w]
                       rfl
                      refine one_ (i := 20) (N := some 125) #[true, true, true, true, true, true, true, true, true, true, true, true, true, true, true, true, true, true, true, true, true, false] rfl rfl (one_of HT_.out (by kernel_rfl)) (by decide) (fun K hK => ?_)
                      refine Kd.N_append_step k64 (w0 := w) w.heap.size rfl (.tmp 105) (.tmp 124) 25 64 (.agg #[(.slice none 0 0), (.int .i64 0)]) 32 rfl Try.underlying25 info64 rfl (by decide) (by omega) (.slice Ao46 x11_5.length co46) x11_5 (⟨y243, wrap64 ((wrap64 (a0_0 * t246)) * t247)⟩ : S64) [.slice Ao52 y243.length co52, .int .i64 (wrap64 ((wrap64 (a0_0 * t246)) * t247))] (fun k_ => (w.heap.size ≤ k_) ∧ k_ ≠ gb225) (fun k_ => ((fun k_ => (w.heap.size ≤ k_) ∧ k_ ≠ gb225)) k_ ∧ some k_ ≠ (.slice Ao46 x11_5.length co46 : Value).ownBlock) rfl rfl ?aP (fun _ hk => hk) ?aF ?aO ?aB ?aS ?aL ?_
                      (case aP => exact (k64_mkF _ _ (⟨y243, wrap64 ((wrap64 (a0_0 * t246)) * t247)⟩ : S64) (Kd.R_reads' (Kd.R_mono (ok' := (fun k_ => ((fun k_ => (w.heap.size ≤ k_) ∧ k_ ≠ gb225)) k_ ∧ some k_ ≠ (.slice Ao46 x11_5.length co46 : Value).ownBlock)) (Kd.R_types (Kd.R_apart' (HO245.out) (Kd.N_typed HO_11.out) (by decide)) BK225.out (by decide)) (fun k_ hk => ⟨⟨hk.1.1, hk.2⟩, hk.1.2⟩))).2.1 (Kd.R_F (Kd.R_mono (ok' := (fun k_ => ((fun k_ => (w.heap.size ≤ k_) ∧ k_ ≠ gb225)) k_ ∧ some k_ ≠ (.slice Ao46 x11_5.length co46 : Value).ownBlock)) (Kd.R_types (Kd.R_apart' (HO245.out) (Kd.N_typed HO_11.out) (by decide)) BK225.out (by decide)) (fun k_ hk => ⟨⟨hk.1.1, hk.2⟩, hk.1.2⟩)))))
                      (case aB => exact HB.out)
                      (case aF => exact (fun k_ hk => ⟨(Nat.le_trans (below_size HB.out) hk), Kd.freshB (g := gb225) (o := .cells #[.int .i64 a0_0, .int .i64 a0_1] 23 (0, 0)) (by (with_reducible repeat (first | refine blk_drewN ?_ _ | refine blk_drew ?_ | refine blk_alloc ?_ _)); exact BK225.out) k_ hk⟩))
                      (case aO => exact (by (with_reducible repeat (first | apply Kd.N_alloc | apply Kd.N_drewN | apply Kd.N_drew)); exact Kd.N_mono HO_11.out (fun _ hk => ⟨hk.1, hk.2.2⟩)))
                      (case aS => exact (below_size HB.out))
                      (case aL => have := LMc44.out; omega)
                      intro v249 w53 ho hb hg hat
                      rw [← Ny248.out] at ho
                      replace BK225 := Aside0.mk (blk_grown (g := gb225) (o := .cells #[.int .i64 a0_0, .int .i64 a0_1] 23 (0, 0)) (by (with_reducible repeat (first | refine blk_drewN ?_ _ | refine blk_drew ?_ | refine blk_alloc ?_ _)); exact BK225.out) hg (Kd.N_ne HO_11.out BK225.out (by decide)))
                      replace HB := Aside0.mk (hb)
                      have HO250 := Aside0.mk (ho)
                      clear HO_11 HO245
                      clear ho hb hg hat
                      refine hK.out _ _ ⟨(blk_cell BK225.out 0).trans rfl, (blk_cell BK225.out 1).trans rfl⟩ (fun hHeld => ?_)
                      clear hK K
                      refine norm_ (a' := ?_) ?_ ?_
                      rotate_left
                      ·
                       show Act.put _ (some 125) _ = _
                       simp only [Act.put, List.setIfInBounds_toArray, List.set_cons_zero, List.set_cons_succ, i64_w, i32_w]
                       rfl
                      refine pure_ (i := 21) (N := some 11) #[true, true, true, true, true, true, true, true, true, true, true, true, true, true, true, true, true, true, true, true, true, true] rfl rfl (any_of HT_.out (by kernel_rfl)) (fun _ _ _ h => h) (Or.inl ⟨rfl, by intro w'; go_simp; with_reducible rfl⟩) (by simp only [Act.put, List.setIfInBounds_toArray, List.set_cons_zero, List.set_cons_succ, i64_w, i32_w]; rfl) ?_
                      refine done_ (done_of HT_.out (by kernel_rfl)) ?_
                      try go_wp2
                      go_roundg kj37
                      case measure => have := HJ6.out; have := HJ23.out; have := HJ30.out; have := HJ32.out; have := HK5.out; have := HJ35.out; have := HJ37.out; omega
                      case rel => exact ⟨(y248), (wrap64 (x12_5 + 1)), rfl, H', ⟨by have := HJ6.out; have := HJ23.out; have := HJ30.out; have := HJ32.out; have := HK5.out; have := HJ35.out; have := HJ37.out; omega⟩, ⟨by (with_reducible repeat (first | apply Kd.N_alloc | apply Kd.N_drewN | apply Kd.N_drew)); exact HO250.out⟩, ⟨by (with_reducible repeat (first | refine blk_drewN ?_ _ | refine blk_drew ?_ | refine blk_alloc ?_ _)); exact BK225.out⟩, ⟨HB.out⟩⟩
                     ·
                      rw [if_neg c44] at H
                      exact absurd H (by simp)
                    ·
                     replace c41 := Bool.eq_false_iff.mpr c41
                     subst c41
                     rw [if_neg (show ¬ (false = true) by decide)] at H
                     obtain ⟨y251, hy251⟩ : ∃ y_ : List Int, y_ = (([x12_5] : List Int)) := ⟨_, rfl⟩
                     replace H : ((hushref6_Power.f kj37 a0_1 x13_35).bind fun t254 => ((hushref6_Power.f kj37 a0_0 (wrap64 ((wrap64 (a2 - a1)) - x13_35))).bind fun t255 => (if x11_5.length < 4398046511104 then (hushref6_Hide.l0 kj37 a1 a2 x3_32 (x11_5 ++ [(⟨y251, wrap64 ((wrap64 ((wrap64 (a0_0 - a0_1)) * t254)) * t255)⟩ : S64)]) (wrap64 (x12_5 + 1)) a0_0 a0_1) else (none)))) = some (r1, r2) := by (rw [hy251]; with_reducible exact H)
                     have Ny251 := Aside0.mk hy251
                     clear hy251
                     obtain ⟨t254, A54, H⟩ := bnd_ H
                     obtain ⟨t255, A55, H⟩ := bnd_ H
                     by_cases c56 : x11_5.length < 4398046511104
                     ·
                      rw [if_pos c56] at H
                      have LMc56 := Aside0.mk c56
                      clear c56
                      obtain ⟨y256, hy256⟩ : ∃ y_ : List (S64), y_ = (x11_5 ++ [(⟨y251, wrap64 ((wrap64 ((wrap64 (a0_0 - a0_1)) * t254)) * t255)⟩ : S64)]) := ⟨_, rfl⟩
                      replace H : (hushref6_Hide.l0 kj37 a1 a2 x3_32 y256 (wrap64 (x12_5 + 1)) a0_0 a0_1) = some (r1, r2) := by (rw [hy256]; with_reducible exact H)
                      have Ny256 := Aside0.mk hy256
                      clear hy256
                      have H' := Aside0.mk H
                      clear H
                      obtain ⟨Ao57, co57, eo57⟩ := Kd.N_slice HO_11.out
                      subst eo57
                      try go_wp2
                      replace HO_11 := Aside0.mk (Kd.N_drew HO_11.out)
                      replace BK225 := Aside0.mk (blk_drew BK225.out)
                      replace HB := Aside0.mk (below_drew1 HB.out)
                      refine start_ (n := 22) (S := fun w' => w'.cell? ⟨gb225, 0, none⟩ = some (.int .i64 a0_0) ∧ w'.cell? ⟨gb225, 1, none⟩ = some (.int .i64 a0_1)) (ds := []) #[false, false, false, false, false, false, false, false, false, false, false, false, false, false, false, false, false, false, false, false, false, false] (by kernel_rfl) rfl rfl ⟨(blk_cell BK225.out 0).trans rfl, (blk_cell BK225.out 1).trans rfl⟩ (fun hHeld => ?_); refine with_tabW hushref6_Hide.tab24 hushref6_Hide.bits24 (fun HT_ HW_ => ?_)
                      generalize wc.drew = w58 at HO_11 BK225 HB hHeld ⊢
                      refine pure_ (i := 0) (N := some 105) #[true, false, false, false, false, false, false, false, false, false, false, false, false, false, false, false, false, false, false, false, false, false] rfl rfl (any_of HT_.out (by kernel_rfl)) (fun _ _ _ h => h) (Or.inl ⟨rfl, by intro w'; go_simp; with_reducible rfl⟩) (by simp only [Act.put, List.setIfInBounds_toArray, List.set_cons_zero, List.set_cons_succ, i64_w, i32_w]; rfl) ?_
                      refine pure_ (i := 1) (N := some 106) #[true, true, false, false, false, false, false, false, false, false, false, false, false, false, false, false, false, false, false, false, false, false] rfl rfl (any_of HT_.out (by kernel_rfl)) (fun _ _ _ h => h) (Or.inl ⟨rfl, by intro w'; go_simp; with_reducible rfl⟩) (by simp only [Act.put, List.setIfInBounds_toArray, List.set_cons_zero, List.set_cons_succ, i64_w, i32_w]; rfl) ?_
                      refine pure_ (i := 3) (N := some 108) #[true, true, false, true, false, false, false, false, false, false, false, false, false, false, false, false, false, false, false, false, false, false] rfl rfl (any_of HT_.out (by kernel_rfl)) (fun _ _ _ h => h) (Or.inl ⟨rfl, by intro w'; go_simp; with_reducible rfl⟩) (by simp only [Act.put, List.setIfInBounds_toArray, List.set_cons_zero, List.set_cons_succ, i64_w, i32_w]; rfl) ?_
                      refine pure_ (i := 4) (N := some 109) #[true, true, false, true, true, false, false, false, false, false, false, false, false, false, false, false, false, false, false, false, false, false] rfl rfl (any_of HT_.out (by kernel_rfl)) (fun _ _ _ h => h) (Or.inl ⟨rfl, by intro w'; go_simp; with_reducible rfl⟩) (by simp only [Act.put, List.setIfInBounds_toArray, List.set_cons_zero, List.set_cons_succ, i64_w, i32_w]; rfl) ?_
                      refine pure_ (i := 6) (N := some 111) #[true, true, false, true, true, false, true, false, false, false, false, false, false, false, false, false, false, false, false, false, false, false] rfl rfl (any_of HT_.out (by kernel_rfl)) (fun _ _ _ h => h) (Or.inl ⟨rfl, by intro w'; go_simp; with_reducible rfl⟩) (by simp only [Act.put, List.setIfInBounds_toArray, List.set_cons_zero, List.set_cons_succ, i64_w, i32_w]; rfl) ?_
                      refine pure_ (i := 9) (N := some 114) #[true, true, false, true, true, false, true, false, false, true, false, false, false, false, false, false, false, false, false, false, false, false] rfl rfl (any_of HT_.out (by kernel_rfl)) (fun _ _ _ h => h) (Or.inl ⟨rfl, by intro w'; go_simp; with_reducible rfl⟩) (by simp only [Act.put, List.setIfInBounds_toArray, List.set_cons_zero, List.set_cons_succ, i64_w, i32_w]; rfl) ?_
                      refine pure_ (i := 11) (N := some 116) #[true, true, false, true, true, false, true, false, false, true, false, true, false, false, false, false, false, false, false, false, false, false] rfl rfl (any_of HT_.out (by kernel_rfl)) (fun _ _ _ h => h) (Or.inl ⟨rfl, by intro w'; go_simp; with_reducible rfl⟩) (by simp only [Act.put, List.setIfInBounds_toArray, List.set_cons_zero, List.set_cons_succ, i64_w, i32_w]; rfl) ?_
                      refine pure_ (i := 12) (N := some 117) #[true, true, false, true, true, false, true, false, false, true, false, true, true, false, false, false, false, false, false, false, false, false] rfl rfl (any_of HT_.out (by kernel_rfl)) (fun _ _ _ h => h) (Or.inl ⟨rfl, by intro w'; go_simp; with_reducible rfl⟩) (by simp only [Act.put, List.setIfInBounds_toArray, List.set_cons_zero, List.set_cons_succ, i64_w, i32_w]; rfl) ?_
                      refine pure_ (i := 13) (N := some 118) #[true, true, false, true, true, false, true, false, false, true, false, true, true, true, false, false, false, false, false, false, false, false] rfl rfl (any_of HT_.out (by kernel_rfl)) (fun _ _ _ h => h) (Or.inl ⟨rfl, by intro w'; go_simp; with_reducible rfl⟩) (by simp only [Act.put, List.setIfInBounds_toArray, List.set_cons_zero, List.set_cons_succ, i64_w, i32_w]; rfl) ?_
                      refine pure_ (i := 14) (N := some 119) #[true, true, false, true, true, false, true, false, false, true, false, true, true, true, true, false, false, false, false, false, false, false] rfl rfl (any_of HT_.out (by kernel_rfl)) (fun _ _ _ h => h) (Or.inl ⟨rfl, by intro w'; go_simp; with_reducible rfl⟩) (by simp only [Act.put, List.setIfInBounds_toArray, List.set_cons_zero, List.set_cons_succ, i64_w, i32_w]; rfl) ?_
                      refine pure_ (i := 15) (N := some 120) #[true, true, false, true, true, false, true, false, false, true, false, true, true, true, true, true, false, false, false, false, false, false] rfl rfl (any_of HT_.out (by kernel_rfl)) (fun _ _ _ h => h) (Or.inl ⟨rfl, by intro w'; go_simp; with_reducible rfl⟩) (by simp only [Act.put, List.setIfInBounds_toArray, List.set_cons_zero, List.set_cons_succ, i64_w, i32_w]; rfl) ?_
                      refine take_ (i := 5) (N := some 110) #[true, true, false, true, true, true, true, false, false, true, false, true, true, true, true, true, false, false, false, false, false, false] rfl rfl (take_ofW HT_.out HW_.out (by kernel_rfl)) (fun _ _ _ h => h) (Or.inl ⟨rfl, by rintro w' ⟨s0, s1⟩; go_simp; with_reducible rfl⟩) hHeld (by simp only [Act.put, List.setIfInBounds_toArray, List.set_cons_zero, List.set_cons_succ, i64_w, i32_w]; rfl) ?_
                      refine take_ (i := 10) (N := some 115) #[true, true, false, true, true, true, true, false, false, true, true, true, true, true, true, true, false, false, false, false, false, false] rfl rfl (take_ofW HT_.out HW_.out (by kernel_rfl)) (fun _ _ _ h => h) (Or.inl ⟨rfl, by rintro w' ⟨s0, s1⟩; go_simp; with_reducible rfl⟩) hHeld (by simp only [Act.put, List.setIfInBounds_toArray, List.set_cons_zero, List.set_cons_succ, i64_w, i32_w]; rfl) ?_
                      refine join_ (σ := Value) 4 #[true, true, true, true, true, true, true, true, true, true, true, true, true, true, true, true, true, true, false, false, false, false] (fun s_ => [(107, s_), (112, .int .i64 t254), (121, .int .i64 t255), (113, .int .i64 (wrap64 ((wrap64 (a0_0 - a0_1)) * t254))), (122, .int .i64 (wrap64 ((wrap64 ((wrap64 (a0_0 - a0_1)) * t254)) * t255)))]) (fun s_ w' => (w'.cell? ⟨gb225, 0, none⟩ = some (.int .i64 a0_0) ∧ w'.cell? ⟨gb225, 1, none⟩ = some (.int .i64 a0_1)) ∧ (Kd.R (Kd.int .i64) 3 w' w.heap.size (fun k_ => (w.heap.size ≤ k_)) s_ y251) ∧ (Kd.N k64 64 w' w.heap.size (fun k_ => (w.heap.size ≤ k_) ∧ some k_ ≠ (s_ : Value).ownBlock ∧ k_ ≠ gb225) (.slice Ao57 x11_5.length co57) x11_5) ∧ (w'.heap[gb225]? = some (.cells #[.int .i64 a0_0, .int .i64 a0_1] 23 (0, 0))) ∧ (Below w.heap.size w w')) ?_ ?_
                      rotate_left
                      ·
                       intro hCont
                       refine two_ (i := 2) (j := 7) (Ni := some 107) (Nj := some 112) #[true, true, true, true, true, true, true, false, false, true, true, true, true, true, true, true, false, false, false, false, false, false] #[true, true, false, true, true, true, true, true, false, true, true, true, true, true, true, true, false, false, false, false, false, false] rfl rfl rfl rfl (two_of HT_.out (by kernel_rfl)) (by decide) (by decide) (fun K hK => ?_) (fun K hK => ?_)
                       ·
                        skip
                        refine Kd.R_lit_step (Kd.int .i64) _ 3 ?hg (N := 107) ?hd (xs := ([x12_5] : List Int)) (inner := [.int .i64 x12_5]) (ok := fun _ => True) (okp := fun _ => True) ?hr ?hp (fun _ hk => hk) trivial (Below.refl _ _) (Nat.le_refl _) (by simp) ?_; (case hd | hg => rfl); (case hr => go_simp; done); (case hp => exact (Reps.one (show Kd.M (Kd.int .i64) _ _ _ x12_5 [.int .i64 x12_5] from rfl) (Reps.none _ _)))
                        intro v252 w59 ho60 hb hg_ hnew_
                        clear hg_ hnew_
                        (rw [← Ny251.out] at ho60)
                        replace HO_11 := Aside0.mk (Kd.N_elder' (by (with_reducible repeat (first | apply Kd.N_alloc | apply Kd.N_drewN | apply Kd.N_drew)); exact HO_11.out) (Kd.R_base ho60) hb)
                        have HO253 := Aside0.mk (Kd.R_lower (Kd.R_newM (M := fun k_ => (w.heap.size ≤ k_)) ho60 (below_size HB.out) (fun k_ h_ => h_)) (below_size HB.out))
                        replace BK225 := Aside0.mk (blk_below (g := gb225) (o := .cells #[.int .i64 a0_0, .int .i64 a0_1] 23 (0, 0)) (by (with_reducible repeat (first | refine blk_drewN ?_ _ | refine blk_drew ?_ | refine blk_alloc ?_ _)); exact BK225.out) hb)
                        replace HB := Aside0.mk (below_step HB.out hb)
                        clear hb ho60
                        refine hK.out _ _ ⟨(blk_cell BK225.out 0).trans rfl, (blk_cell BK225.out 1).trans rfl⟩ (fun hHeld => ?_)
                        clear hK K
                        refine norm_ (a' := ?_) ?_ ?_
                        rotate_left
                        ·
                         show Act.put _ (some 107) _ = _
                         simp only [Act.put, List.setIfInBounds_toArray, List.set_cons_zero, List.set_cons_succ, i64_w, i32_w]
                         rfl
                        refine one_ (i := 7) (N := some 112) #[true, true, true, true, true, true, true, true, false, true, true, true, true, true, true, true, false, false, false, false, false, false] rfl rfl (one_of HT_.out (by kernel_rfl)) (by decide) (fun K hK => ?_)
                        refine goes_ Try.func40 (by kernel_rfl) rfl #[.int .i64 a0_1, .int .i64 x13_35] rfl rfl rfl (by (try simp only [List.map_toArray, List.map_cons, List.map_nil]); rfl) ?_
                        with_reducible refine (hushref6_Power.calls kj37 a0_1 x13_35 t254 _ A54.out).mono ?_
                        rintro e w' ⟨rfl, ⟨nd, rfl⟩⟩
                        refine ⟨_, rfl, ?_⟩
                        refine hK.out _ _ ⟨(blk_cell BK225.out 0).trans rfl, (blk_cell BK225.out 1).trans rfl⟩ (fun hHeld => ?_)
                        clear hK K
                        refine norm_ (a' := ?_) ?_ ?_
                        rotate_left
                        ·
                         show Act.put _ (some 112) _ = _
                         simp only [Act.put, List.setIfInBounds_toArray, List.set_cons_zero, List.set_cons_succ, i64_w, i32_w]
                         rfl
                        refine pure_ (i := 8) (N := some 113) #[true, true, true, true, true, true, true, true, true, true, true, true, true, true, true, true, false, false, false, false, false, false] rfl rfl (any_of HT_.out (by kernel_rfl)) (fun _ _ _ h => h) (Or.inl ⟨rfl, by intro w'; go_simp; with_reducible rfl⟩) (by simp only [Act.put, List.setIfInBounds_toArray, List.set_cons_zero, List.set_cons_succ, i64_w, i32_w]; rfl) ?_
                        refine one_ (i := 16) (N := some 121) #[true, true, true, true, true, true, true, true, true, true, true, true, true, true, true, true, true, false, false, false, false, false] rfl rfl (one_of HT_.out (by kernel_rfl)) (by decide) (fun K hK => ?_)
                        refine goes_ Try.func40 (by kernel_rfl) rfl #[.int .i64 a0_0, .int .i64 (wrap64 ((wrap64 (a2 - a1)) - x13_35))] rfl rfl rfl (by (try simp only [List.map_toArray, List.map_cons, List.map_nil]); rfl) ?_
                        with_reducible refine (hushref6_Power.calls kj37 a0_0 (wrap64 ((wrap64 (a2 - a1)) - x13_35)) t255 _ A55.out).mono ?_
                        rintro e w' ⟨rfl, ⟨nd, rfl⟩⟩
                        refine ⟨_, rfl, ?_⟩
                        obtain ⟨Ao61, co61, eo61⟩ := Kd.R_slice HO253.out
                        (subst eo61)
                        refine hK.out _ _ ⟨(blk_cell BK225.out 0).trans rfl, (blk_cell BK225.out 1).trans rfl⟩ (fun hHeld => ?_)
                        clear hK K
                        refine norm_ (a' := ?_) ?_ ?_
                        rotate_left
                        ·
                         show Act.put _ (some 121) _ = _
                         simp only [Act.put, List.setIfInBounds_toArray, List.set_cons_zero, List.set_cons_succ, i64_w, i32_w]
                         rfl
                        refine pure_ (i := 17) (N := some 122) #[true, true, true, true, true, true, true, true, true, true, true, true, true, true, true, true, true, true, false, false, false, false] rfl rfl (any_of HT_.out (by kernel_rfl)) (fun _ _ _ h => h) (Or.inl ⟨rfl, by intro w'; go_simp; with_reducible rfl⟩) (by simp only [Act.put, List.setIfInBounds_toArray, List.set_cons_zero, List.set_cons_succ, i64_w, i32_w]; rfl) ?_
                        exact norm_ (by simp only [putAll, Act.put, List.setIfInBounds_toArray, List.set_cons_zero, List.set_cons_succ]) (hCont (.slice Ao61 y251.length co61) _ ⟨hHeld, (by (with_reducible repeat (apply Kd.R_drewN)); exact Kd.R_mono HO253.out (fun _ hk => hk.1)), (by (with_reducible repeat (apply Kd.N_drewN)); exact Kd.N_mono HO_11.out (fun _ hk => ⟨hk.1.1, ⟨hk.2, hk.1.2⟩⟩)), (by (with_reducible repeat (refine blk_drewN ?_ _)); exact BK225.out), (by repeat (with_reducible first | exact HB.out | apply pw_below_drewN))⟩)
                       ·
                        skip
                        refine goes_ Try.func40 (by kernel_rfl) rfl #[.int .i64 a0_1, .int .i64 x13_35] rfl rfl rfl (by (try simp only [List.map_toArray, List.map_cons, List.map_nil]); rfl) ?_
                        with_reducible refine (hushref6_Power.calls kj37 a0_1 x13_35 t254 _ A54.out).mono ?_
                        rintro e w' ⟨rfl, ⟨nd, rfl⟩⟩
                        refine ⟨_, rfl, ?_⟩
                        refine hK.out _ _ ⟨(blk_cell BK225.out 0).trans rfl, (blk_cell BK225.out 1).trans rfl⟩ (fun hHeld => ?_)
                        clear hK K
                        refine norm_ (a' := ?_) ?_ ?_
                        rotate_left
                        ·
                         show Act.put _ (some 112) _ = _
                         simp only [Act.put, List.setIfInBounds_toArray, List.set_cons_zero, List.set_cons_succ, i64_w, i32_w]
                         rfl
                        refine pure_ (i := 8) (N := some 113) #[true, true, false, true, true, true, true, true, true, true, true, true, true, true, true, true, false, false, false, false, false, false] rfl rfl (any_of HT_.out (by kernel_rfl)) (fun _ _ _ h => h) (Or.inl ⟨rfl, by intro w'; go_simp; with_reducible rfl⟩) (by simp only [Act.put, List.setIfInBounds_toArray, List.set_cons_zero, List.set_cons_succ, i64_w, i32_w]; rfl) ?_
                        refine two_ (i := 2) (j := 16) (Ni := some 107) (Nj := some 121) #[true, true, true, true, true, true, true, true, true, true, true, true, true, true, true, true, false, false, false, false, false, false] #[true, true, false, true, true, true, true, true, true, true, true, true, true, true, true, true, true, false, false, false, false, false] rfl rfl rfl rfl (two_of HT_.out (by kernel_rfl)) (by decide) (by decide) (fun K hK => ?_) (fun K hK => ?_)
                        ·
                         skip
                         refine Kd.R_lit_step (Kd.int .i64) _ 3 ?hg (N := 107) ?hd (xs := ([x12_5] : List Int)) (inner := [.int .i64 x12_5]) (ok := fun _ => True) (okp := fun _ => True) ?hr ?hp (fun _ hk => hk) trivial (Below.refl _ _) (Nat.le_refl _) (by simp) ?_; (case hd | hg => rfl); (case hr => go_simp; done); (case hp => exact (Reps.one (show Kd.M (Kd.int .i64) _ _ _ x12_5 [.int .i64 x12_5] from rfl) (Reps.none _ _)))
                         intro v252 w59 ho60 hb hg_ hnew_
                         clear hg_ hnew_
                         (rw [← Ny251.out] at ho60)
                         replace HO_11 := Aside0.mk (Kd.N_elder' (by (with_reducible repeat (apply Kd.N_drewN)); exact HO_11.out) (Kd.R_base ho60) hb)
                         have HO253 := Aside0.mk (Kd.R_lower (Kd.R_newM (M := fun k_ => (w.heap.size ≤ k_)) ho60 (below_size (by repeat (with_reducible first | exact HB.out | apply pw_below_drewN))) (fun k_ h_ => h_)) (below_size (by repeat (with_reducible first | exact HB.out | apply pw_below_drewN))))
                         replace BK225 := Aside0.mk (blk_below (g := gb225) (o := .cells #[.int .i64 a0_0, .int .i64 a0_1] 23 (0, 0)) (by (with_reducible repeat (refine blk_drewN ?_ _)); exact BK225.out) hb)
                         replace HB := Aside0.mk (below_step (by repeat (with_reducible first | exact HB.out | apply pw_below_drewN)) hb)
                         clear hb ho60
                         refine hK.out _ _ ⟨(blk_cell BK225.out 0).trans rfl, (blk_cell BK225.out 1).trans rfl⟩ (fun hHeld => ?_)
                         clear hK K
                         refine norm_ (a' := ?_) ?_ ?_
                         rotate_left
                         ·
                          show Act.put _ (some 107) _ = _
                          simp only [Act.put, List.setIfInBounds_toArray, List.set_cons_zero, List.set_cons_succ, i64_w, i32_w]
                          rfl
                         refine one_ (i := 16) (N := some 121) #[true, true, true, true, true, true, true, true, true, true, true, true, true, true, true, true, true, false, false, false, false, false] rfl rfl (one_of HT_.out (by kernel_rfl)) (by decide) (fun K hK => ?_)
                         refine goes_ Try.func40 (by kernel_rfl) rfl #[.int .i64 a0_0, .int .i64 (wrap64 ((wrap64 (a2 - a1)) - x13_35))] rfl rfl rfl (by (try simp only [List.map_toArray, List.map_cons, List.map_nil]); rfl) ?_
                         with_reducible refine (hushref6_Power.calls kj37 a0_0 (wrap64 ((wrap64 (a2 - a1)) - x13_35)) t255 _ A55.out).mono ?_
                         rintro e w' ⟨rfl, ⟨nd, rfl⟩⟩
                         refine ⟨_, rfl, ?_⟩
                         obtain ⟨Ao61, co61, eo61⟩ := Kd.R_slice HO253.out
                         (subst eo61)
                         refine hK.out _ _ ⟨(blk_cell BK225.out 0).trans rfl, (blk_cell BK225.out 1).trans rfl⟩ (fun hHeld => ?_)
                         clear hK K
                         refine norm_ (a' := ?_) ?_ ?_
                         rotate_left
                         ·
                          show Act.put _ (some 121) _ = _
                          simp only [Act.put, List.setIfInBounds_toArray, List.set_cons_zero, List.set_cons_succ, i64_w, i32_w]
                          rfl
                         refine pure_ (i := 17) (N := some 122) #[true, true, true, true, true, true, true, true, true, true, true, true, true, true, true, true, true, true, false, false, false, false] rfl rfl (any_of HT_.out (by kernel_rfl)) (fun _ _ _ h => h) (Or.inl ⟨rfl, by intro w'; go_simp; with_reducible rfl⟩) (by simp only [Act.put, List.setIfInBounds_toArray, List.set_cons_zero, List.set_cons_succ, i64_w, i32_w]; rfl) ?_
                         exact norm_ (by simp only [putAll, Act.put, List.setIfInBounds_toArray, List.set_cons_zero, List.set_cons_succ]) (hCont (.slice Ao61 y251.length co61) _ ⟨hHeld, (by (with_reducible repeat (apply Kd.R_drewN)); exact Kd.R_mono HO253.out (fun _ hk => hk.1)), (by (with_reducible repeat (apply Kd.N_drewN)); exact Kd.N_mono HO_11.out (fun _ hk => ⟨hk.1.1, ⟨hk.2, hk.1.2⟩⟩)), (by (with_reducible repeat (refine blk_drewN ?_ _)); exact BK225.out), (by repeat (with_reducible first | exact HB.out | apply pw_below_drewN))⟩)
                        ·
                         skip
                         refine goes_ Try.func40 (by kernel_rfl) rfl #[.int .i64 a0_0, .int .i64 (wrap64 ((wrap64 (a2 - a1)) - x13_35))] rfl rfl rfl (by (try simp only [List.map_toArray, List.map_cons, List.map_nil]); rfl) ?_
                         with_reducible refine (hushref6_Power.calls kj37 a0_0 (wrap64 ((wrap64 (a2 - a1)) - x13_35)) t255 _ A55.out).mono ?_
                         rintro e w' ⟨rfl, ⟨nd, rfl⟩⟩
                         refine ⟨_, rfl, ?_⟩
                         refine hK.out _ _ ⟨(blk_cell BK225.out 0).trans rfl, (blk_cell BK225.out 1).trans rfl⟩ (fun hHeld => ?_)
                         clear hK K
                         refine norm_ (a' := ?_) ?_ ?_
                         rotate_left
                         ·
                          show Act.put _ (some 121) _ = _
                          simp only [Act.put, List.setIfInBounds_toArray, List.set_cons_zero, List.set_cons_succ, i64_w, i32_w]
                          rfl
                         refine pure_ (i := 17) (N := some 122) #[true, true, false, true, true, true, true, true, true, true, true, true, true, true, true, true, true, true, false, false, false, false] rfl rfl (any_of HT_.out (by kernel_rfl)) (fun _ _ _ h => h) (Or.inl ⟨rfl, by intro w'; go_simp; with_reducible rfl⟩) (by simp only [Act.put, List.setIfInBounds_toArray, List.set_cons_zero, List.set_cons_succ, i64_w, i32_w]; rfl) ?_
                         refine one_ (i := 2) (N := some 107) #[true, true, true, true, true, true, true, true, true, true, true, true, true, true, true, true, true, true, false, false, false, false] rfl rfl (one_of HT_.out (by kernel_rfl)) (by decide) (fun K hK => ?_)
                         refine Kd.R_lit_step (Kd.int .i64) _ 3 ?hg (N := 107) ?hd (xs := ([x12_5] : List Int)) (inner := [.int .i64 x12_5]) (ok := fun _ => True) (okp := fun _ => True) ?hr ?hp (fun _ hk => hk) trivial (Below.refl _ _) (Nat.le_refl _) (by simp) ?_; (case hd | hg => rfl); (case hr => go_simp; done); (case hp => exact (Reps.one (show Kd.M (Kd.int .i64) _ _ _ x12_5 [.int .i64 x12_5] from rfl) (Reps.none _ _)))
                         intro v252 w59 ho60 hb hg_ hnew_
                         clear hg_ hnew_
                         (rw [← Ny251.out] at ho60)
                         replace HO_11 := Aside0.mk (Kd.N_elder' (by (with_reducible repeat (apply Kd.N_drewN)); exact HO_11.out) (Kd.R_base ho60) hb)
                         have HO253 := Aside0.mk (Kd.R_lower (Kd.R_newM (M := fun k_ => (w.heap.size ≤ k_)) ho60 (below_size (by repeat (with_reducible first | exact HB.out | apply pw_below_drewN))) (fun k_ h_ => h_)) (below_size (by repeat (with_reducible first | exact HB.out | apply pw_below_drewN))))
                         replace BK225 := Aside0.mk (blk_below (g := gb225) (o := .cells #[.int .i64 a0_0, .int .i64 a0_1] 23 (0, 0)) (by (with_reducible repeat (refine blk_drewN ?_ _)); exact BK225.out) hb)
                         replace HB := Aside0.mk (below_step (by repeat (with_reducible first | exact HB.out | apply pw_below_drewN)) hb)
                         clear hb ho60
                         obtain ⟨Ao61, co61, eo61⟩ := Kd.R_slice HO253.out
                         (subst eo61)
                         refine hK.out _ _ ⟨(blk_cell BK225.out 0).trans rfl, (blk_cell BK225.out 1).trans rfl⟩ (fun hHeld => ?_)
                         clear hK K
                         refine norm_ (a' := ?_) ?_ ?_
                         rotate_left
                         ·
                          show Act.put _ (some 107) _ = _
                          simp only [Act.put, List.setIfInBounds_toArray, List.set_cons_zero, List.set_cons_succ, i64_w, i32_w]
                          rfl
                         exact norm_ (by simp only [putAll, Act.put, List.setIfInBounds_toArray, List.set_cons_zero, List.set_cons_succ]) (hCont (.slice Ao61 y251.length co61) _ ⟨hHeld, (by (with_reducible repeat (first | apply Kd.R_alloc | apply Kd.R_drewN | apply Kd.R_drew)); exact Kd.R_mono HO253.out (fun _ hk => hk.1)), (by (with_reducible repeat (first | apply Kd.N_alloc | apply Kd.N_drewN | apply Kd.N_drew)); exact Kd.N_mono HO_11.out (fun _ hk => ⟨hk.1.1, ⟨hk.2, hk.1.2⟩⟩)), (by (with_reducible repeat (first | refine blk_drewN ?_ _ | refine blk_drew ?_ | refine blk_alloc ?_ _)); exact BK225.out), HB.out⟩)
                      rintro v252 w62 ⟨hS_, h0_, h1_, h2_, h3_⟩
                      have n0_ : Aside0 (Kd.R (Kd.int .i64) 3 w62 w.heap.size (fun k_ => (w.heap.size ≤ k_)) v252 y251) := ⟨h0_⟩
                      have n1_ : Aside0 (Kd.N k64 64 w62 w.heap.size (fun k_ => (w.heap.size ≤ k_) ∧ some k_ ≠ (v252 : Value).ownBlock ∧ k_ ≠ gb225) (.slice Ao57 x11_5.length co57) x11_5) := ⟨h1_⟩
                      have n2_ : Aside0 (w62.heap[gb225]? = some (.cells #[.int .i64 a0_0, .int .i64 a0_1] 23 (0, 0))) := ⟨h2_⟩
                      have n3_ : Aside0 (Below w.heap.size w w62) := ⟨h3_⟩
                      clear HO_11
                      clear BK225
                      clear HB
                      clear h0_ h1_ h2_ h3_
                      have HO253 := n0_
                      have HO_11 := n1_
                      have BK225 := n2_
                      have HB := n3_
                      clear n0_ n1_ n2_ n3_
                      have hHeld : w62.cell? ⟨gb225, 0, none⟩ = some (.int .i64 a0_0) ∧ w62.cell? ⟨gb225, 1, none⟩ = some (.int .i64 a0_1) := hS_
                      obtain ⟨Ao63, co63, eo63⟩ := Kd.R_slice HO253.out
                      (subst eo63)
                      refine norm_ (a' := ?_) ?_ ?_
                      rotate_left
                      ·
                       simp only [putAll, Act.put, List.setIfInBounds_toArray, List.set_cons_zero, List.set_cons_succ]
                       rfl
                      refine pure_ (i := 18) (N := some 123) #[true, true, true, true, true, true, true, true, true, true, true, true, true, true, true, true, true, true, true, false, false, false] rfl rfl (any_of HT_.out (by kernel_rfl)) (fun _ _ _ h => h) (Or.inl ⟨rfl, by intro w'; go_simp; with_reducible rfl⟩) (by simp only [Act.put, List.setIfInBounds_toArray, List.set_cons_zero, List.set_cons_succ, i64_w, i32_w]; rfl) ?_
                      refine one_ (i := 19) (N := some 124) #[true, true, true, true, true, true, true, true, true, true, true, true, true, true, true, true, true, true, true, true, false, false] rfl rfl (one_of HT_.out (by kernel_rfl)) (by decide) (fun K hK => ?_)
                      refine value_ (w1 := ?_) (v := ?_) rfl rfl ?_ ?_
                      rotate_left 2
                      ·
                       go_simp
                       constructor
                       ·
                        rfl
                       ·
                        rfl
                      refine hK.out _ _ ⟨(blk_cell (blk_alloc BK225.out _) 0).trans rfl, (blk_cell (blk_alloc BK225.out _) 1).trans rfl⟩ (fun hHeld => ?_)
                      clear hK K
                      refine norm_ (a' := ?_) ?_ ?_
                      rotate_left
                      ·
                       show Act.put _ (some 124) _ = _
                       simp only [Act.put, List.setIfInBounds_toArray, List.set_cons_zero, List.set_cons_succ, i64_w, i32_w]
                       rfl
                      refine one_ (i := 20) (N := some 125) #[true, true, true, true, true, true, true, true, true, true, true, true, true, true, true, true, true, true, true, true, true, false] rfl rfl (one_of HT_.out (by kernel_rfl)) (by decide) (fun K hK => ?_)
                      refine Kd.N_append_step k64 (w0 := w) w.heap.size rfl (.tmp 105) (.tmp 124) 25 64 (.agg #[(.slice none 0 0), (.int .i64 0)]) 32 rfl Try.underlying25 info64 rfl (by decide) (by omega) (.slice Ao57 x11_5.length co57) x11_5 (⟨y251, wrap64 ((wrap64 ((wrap64 (a0_0 - a0_1)) * t254)) * t255)⟩ : S64) [.slice Ao63 y251.length co63, .int .i64 (wrap64 ((wrap64 ((wrap64 (a0_0 - a0_1)) * t254)) * t255))] (fun k_ => (w.heap.size ≤ k_) ∧ k_ ≠ gb225) (fun k_ => ((fun k_ => (w.heap.size ≤ k_) ∧ k_ ≠ gb225)) k_ ∧ some k_ ≠ (.slice Ao57 x11_5.length co57 : Value).ownBlock) rfl rfl ?aP (fun _ hk => hk) ?aF ?aO ?aB ?aS ?aL ?_
                      (case aP => exact (k64_mkF _ _ (⟨y251, wrap64 ((wrap64 ((wrap64 (a0_0 - a0_1)) * t254)) * t255)⟩ : S64) (Kd.R_reads' (Kd.R_mono (ok' := (fun k_ => ((fun k_ => (w.heap.size ≤ k_) ∧ k_ ≠ gb225)) k_ ∧ some k_ ≠ (.slice Ao57 x11_5.length co57 : Value).ownBlock)) (Kd.R_types (Kd.R_apart' (HO253.out) (Kd.N_typed HO_11.out) (by decide)) BK225.out (by decide)) (fun k_ hk => ⟨⟨hk.1.1, hk.2⟩, hk.1.2⟩))).2.1 (Kd.R_F (Kd.R_mono (ok' := (fun k_ => ((fun k_ => (w.heap.size ≤ k_) ∧ k_ ≠ gb225)) k_ ∧ some k_ ≠ (.slice Ao57 x11_5.length co57 : Value).ownBlock)) (Kd.R_types (Kd.R_apart' (HO253.out) (Kd.N_typed HO_11.out) (by decide)) BK225.out (by decide)) (fun k_ hk => ⟨⟨hk.1.1, hk.2⟩, hk.1.2⟩)))))
                      (case aB => exact HB.out)
                      (case aF => exact (fun k_ hk => ⟨(Nat.le_trans (below_size HB.out) hk), Kd.freshB (g := gb225) (o := .cells #[.int .i64 a0_0, .int .i64 a0_1] 23 (0, 0)) (by (with_reducible repeat (first | refine blk_drewN ?_ _ | refine blk_drew ?_ | refine blk_alloc ?_ _)); exact BK225.out) k_ hk⟩))
                      (case aO => exact (by (with_reducible repeat (first | apply Kd.N_alloc | apply Kd.N_drewN | apply Kd.N_drew)); exact Kd.N_mono HO_11.out (fun _ hk => ⟨hk.1, hk.2.2⟩)))
                      (case aS => exact (below_size HB.out))
                      (case aL => have := LMc56.out; omega)
                      intro v257 w64 ho hb hg hat
                      rw [← Ny256.out] at ho
                      replace BK225 := Aside0.mk (blk_grown (g := gb225) (o := .cells #[.int .i64 a0_0, .int .i64 a0_1] 23 (0, 0)) (by (with_reducible repeat (first | refine blk_drewN ?_ _ | refine blk_drew ?_ | refine blk_alloc ?_ _)); exact BK225.out) hg (Kd.N_ne HO_11.out BK225.out (by decide)))
                      replace HB := Aside0.mk (hb)
                      have HO258 := Aside0.mk (ho)
                      clear HO_11 HO253
                      clear ho hb hg hat
                      refine hK.out _ _ ⟨(blk_cell BK225.out 0).trans rfl, (blk_cell BK225.out 1).trans rfl⟩ (fun hHeld => ?_)
                      clear hK K
                      refine norm_ (a' := ?_) ?_ ?_
                      rotate_left
                      ·
                       show Act.put _ (some 125) _ = _
                       simp only [Act.put, List.setIfInBounds_toArray, List.set_cons_zero, List.set_cons_succ, i64_w, i32_w]
                       rfl
                      refine pure_ (i := 21) (N := some 11) #[true, true, true, true, true, true, true, true, true, true, true, true, true, true, true, true, true, true, true, true, true, true] rfl rfl (any_of HT_.out (by kernel_rfl)) (fun _ _ _ h => h) (Or.inl ⟨rfl, by intro w'; go_simp; with_reducible rfl⟩) (by simp only [Act.put, List.setIfInBounds_toArray, List.set_cons_zero, List.set_cons_succ, i64_w, i32_w]; rfl) ?_
                      refine done_ (done_of HT_.out (by kernel_rfl)) ?_
                      try go_wp2
                      go_roundg kj37
                      case measure => have := HJ6.out; have := HJ23.out; have := HJ30.out; have := HJ32.out; have := HK5.out; have := HJ35.out; have := HJ37.out; omega
                      case rel => exact ⟨(y256), (wrap64 (x12_5 + 1)), rfl, H', ⟨by have := HJ6.out; have := HJ23.out; have := HJ30.out; have := HJ32.out; have := HK5.out; have := HJ35.out; have := HJ37.out; omega⟩, ⟨by (with_reducible repeat (first | apply Kd.N_alloc | apply Kd.N_drewN | apply Kd.N_drew)); exact HO258.out⟩, ⟨by (with_reducible repeat (first | refine blk_drewN ?_ _ | refine blk_drew ?_ | refine blk_alloc ?_ _)); exact BK225.out⟩, ⟨HB.out⟩⟩
                     ·
                      rw [if_neg c56] at H
                      exact absurd H (by simp)
               ·
                rw [if_neg c35] at H
                have c35b0 : decide (x12_5 ≤ a2) = false := decide_eq_false c35
                clear c35
                obtain ⟨⟨t239, t242⟩, A65, H⟩ := bnd_ H
                dsimp only at H
                simp only [Option.some.injEq, Prod.mk.injEq] at H
                obtain ⟨rfl, rfl⟩ := H
                obtain ⟨Ao66, co66, eo66⟩ := Kd.N_slice HO_11.out
                subst eo66
                go_wp2_with (((with_reducible refine gate_callee (f := 39) rfl ?_); refine goesL_ (some 127) rfl rfl Try.func39 (by kernel_rfl) rfl #[.slice Ao66 x11_5.length co66] rfl (by (try simp only [List.map_toArray, List.map_cons, List.map_nil]); rfl) ?_; (with_reducible refine (hushref2_Make.calls k5 (fun k_ => ((w.heap.size ≤ k_) ∧ k_ ≠ gb225)) _ _ x11_5 t239 t242 _ ?side1 A65.out).mono ?_); (case side1 => exact Kd.N_V (HO_11.out)); rintro e w67 ⟨v240, rfl, ho0, hb⟩; refine ⟨_, rfl, ?_⟩; replace HO_11 := Aside0.mk (Kd.N_elder' (by (with_reducible repeat (first | apply Kd.N_alloc | apply Kd.N_drewN | apply Kd.N_drew)); exact HO_11.out) (Kd.N_base ho0) hb); have HO241 := Aside0.mk (Kd.N_lower (Kd.N_mono (ok' := fun k_ => (w.heap.size ≤ k_) ∧ k_ ≠ gb225) ho0 (fun k_ hk_ => ⟨Or.elim hk_ (fun hs_ => hs_.1) (fun hn_ => (Nat.le_trans (below_size HB.out) hn_)), Or.elim hk_ (fun hs_ => hs_.2) (fun hn_ => (Kd.freshB (g := gb225) (o := .cells #[.int .i64 a0_0, .int .i64 a0_1] 23 (0, 0)) (by (with_reducible repeat (first | refine blk_drewN ?_ _ | refine blk_drew ?_ | refine blk_alloc ?_ _)); exact BK225.out) k_ hn_))⟩)) (below_size HB.out)); replace BK225 := Aside0.mk (blk_below (g := gb225) (o := .cells #[.int .i64 a0_0, .int .i64 a0_1] 23 (0, 0)) (by (with_reducible repeat (first | refine blk_drewN ?_ _ | refine blk_drew ?_ | refine blk_alloc ?_ _)); exact BK225.out) hb); replace HB := Aside0.mk (below_step HB.out hb); (try clear hb); (try clear ho0)))
                go_ret2
                exact ⟨_, rfl, by (with_reducible repeat (first | apply Kd.N_alloc | apply Kd.N_drewN | apply Kd.N_drew)); exact Kd.N_mono HO241.out (fun _ hk => hk.1), HB.out⟩
 ·
  rw [if_neg c6] at H
  have c6b0 : (t226 == 0) = false := beq_eq_false_iff_ne.mpr c6
  have c6b1 : (t226 != 0) = true := bne_iff_ne.mpr c6
  simp only [Option.some.injEq, Prod.mk.injEq] at H
  obtain ⟨rfl, rfl⟩ := H
  go_enter Try.func13, Try.ntmps13
  go_wp2_with (first | ((with_reducible refine gate_dst (N := 4) rfl ?_); refine box_event ?hg (N := 4) ?hd (cs := #[.int .i64 a0_0, .int .i64 a0_1]) (t := 23) ?hr ?_; (case hd | hg => rfl); (case hr => go_simp; done); intro gb225 hg w68 hbox hb; have BK225 := Aside0.mk (hbox); have GW225 := gw_ HB.out hg; have GE225 := gw_ HB.out hg; replace HB := Aside0.mk (below_step HB.out hb); clear hb hbox hg; have hcz69_0 := cz0_ BK225; have hcz69_1 := cz1_ BK225; have hfz69_0 := blk_frozen BK225.out 0; have hfz69_1 := blk_frozen BK225.out 1) | ((with_reducible refine gate_callee (f := 38) rfl ?_); refine goesL_ (some 16) rfl rfl Try.func38 (by kernel_rfl) rfl #[.agg #[.int .i64 a0_0, .int .i64 a0_1]] rfl (by (try simp only [List.map_toArray, List.map_cons, List.map_nil]); rfl) ?_; (with_reducible refine (hushref6_Loss.calls k a0_0 a0_1 t226 _ A5.out).mono ?_); rintro e w70 ⟨rfl, hb⟩; refine ⟨_, rfl, ?_⟩; replace BK225 := Aside0.mk (blk_below (g := gb225) (o := .cells #[.int .i64 a0_0, .int .i64 a0_1] 23 (0, 0)) (by (with_reducible repeat (first | refine blk_drewN ?_ _ | refine blk_drew ?_ | refine blk_alloc ?_ _)); exact BK225.out) hb); replace HB := Aside0.mk (below_step HB.out hb); (try clear hb)))
  go_ret2
  exact ⟨_, rfl, by exact Kd.N_nil _ _ _ _ _, HB.out⟩

end Go.Proofs.Ytjbgnlhgjgnclaa.PB

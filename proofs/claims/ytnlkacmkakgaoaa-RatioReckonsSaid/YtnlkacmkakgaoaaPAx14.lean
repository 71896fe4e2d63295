/- Functions of the translated program as Lean functions, and what their calls come to: written by this session's own program (wip/xprint.py) over the kit's print. Conditions stand in each theorem. -/
import Derived.Test.YtnlkacmkakgaoaaPAx0
import Derived.Test.YtnlkacmkakgaoaaPAx1
import Derived.Test.YtnlkacmkakgaoaaPAx4
import Derived.Test.YtnlkacmkakgaoaaPAx5
import Derived.Test.YtnlkacmkakgaoaaPAx12
import Derived.Test.YtnlkacmkakgaoaaPAx13
namespace Go.Proofs.Ytnlkacmkakgaoaa.PA
open Go.RowKit Go.Proofs.YtnlkacmkakgaoaaW.PrintWords Go.Proofs.YtnlkacmkakgaoaaW.PrintLast Go.Proofs.YtnlkacmkakgaoaaW.PrintMore
attribute [local go_sem] max2_int min2_int max_two min_two max_three min_three max_four min_four   -- for this text's walks alone
set_option linter.unusedVariables false
set_option linter.unusedSimpArgs false

attribute [local go_sem high] eqA23
/-! ### hushlaw1_RatioReckons: function 6 -/
mutual
def hushlaw1_RatioReckons.j0 : Nat → Bool → Int → Int → Int → Int → Option (Bool)
  | 0, _, _, _, _, _ => none
  | k + 1, x30, x283000, x283001, x284000, x284001 => if x30 = true then (some false) else ((ratio_Over.f k x283000 x283001 x284000 x284001).bind fun bt292 => ((hushref1_Over.f k x283000 x283001 x284000 x284001).bind fun bt295 => (if (!(bt292.1 == bt295.1) || (!(bt292.2.1 == bt295.2.1))) = true then (hushlaw1_RatioReckons.j1 k true x283000 x283001 x284000 x284001) else (hushlaw1_RatioReckons.j1 k (bt292.2.2 != bt295.2.2) x283000 x283001 x284000 x284001))))
def hushlaw1_RatioReckons.j1 : Nat → Bool → Int → Int → Int → Int → Option (Bool)
  | 0, _, _, _, _, _ => none
  | k + 1, x50, x283000, x283001, x284000, x284001 => if x50 = true then (some false) else ((ratio_Plus.f k x283000 x283001 x284000 x284001).bind fun bt298 => ((hushref1_Plus.f k x283000 x283001 x284000 x284001).bind fun bt301 => (if (!(bt298.1 == bt301.1) || (!(bt298.2.1 == bt301.2.1))) = true then (hushlaw1_RatioReckons.j2 k true x283000 x283001 x284000 x284001) else (hushlaw1_RatioReckons.j2 k (bt298.2.2 != bt301.2.2) x283000 x283001 x284000 x284001))))
def hushlaw1_RatioReckons.j2 : Nat → Bool → Int → Int → Int → Int → Option (Bool)
  | 0, _, _, _, _, _ => none
  | k + 1, x70, x283000, x283001, x284000, x284001 => if x70 = true then (some false) else ((ratio_Minus.f k x283000 x283001 x284000 x284001).bind fun bt304 => ((hushref1_Minus.f k x283000 x283001 x284000 x284001).bind fun bt307 => (if (!(bt304.1 == bt307.1) || (!(bt304.2.1 == bt307.2.1))) = true then (hushlaw1_RatioReckons.j3 k true x283000 x283001 x284000 x284001) else (hushlaw1_RatioReckons.j3 k (bt304.2.2 != bt307.2.2) x283000 x283001 x284000 x284001))))
def hushlaw1_RatioReckons.j3 : Nat → Bool → Int → Int → Int → Int → Option (Bool)
  | 0, _, _, _, _, _ => none
  | k + 1, x90, x283000, x283001, x284000, x284001 => if x90 = true then (some false) else ((ratio_Order.f k x283000 x283001 x284000 x284001).bind fun bt310 => ((hushref1_Order.f k x283000 x283001 x284000 x284001).bind fun bt312 => (if bt310.1 = bt312.1 then (some (bt310.2 == bt312.2)) else (some false))))
end
def hushlaw1_RatioReckons.f (k : Nat) (a0_0 : Int) (a0_1 : Int) (a1_0 : Int) (a1_1 : Int) : Option (Bool) := (ratio_Times.f k a0_0 a0_1 a1_0 a1_1).bind fun bt284 => ((hushref1_Times.f k a0_0 a0_1 a1_0 a1_1).bind fun bt288 => (if (!(bt284.1 == bt288.1) || (!(bt284.2.1 == bt288.2.1))) = true then (hushlaw1_RatioReckons.j0 k true a0_0 a0_1 a1_0 a1_1) else (hushlaw1_RatioReckons.j0 k (bt284.2.2 != bt288.2.2) a0_0 a0_1 a1_0 a1_1)))
theorem hushlaw1_RatioReckons.mono_l : ∀ k, (∀ y0 y1 y2 y3 y4, LeO (hushlaw1_RatioReckons.j0 k y0 y1 y2 y3 y4) (hushlaw1_RatioReckons.j0 (k + 1) y0 y1 y2 y3 y4)) ∧ (∀ y0 y1 y2 y3 y4, LeO (hushlaw1_RatioReckons.j1 k y0 y1 y2 y3 y4) (hushlaw1_RatioReckons.j1 (k + 1) y0 y1 y2 y3 y4)) ∧ (∀ y0 y1 y2 y3 y4, LeO (hushlaw1_RatioReckons.j2 k y0 y1 y2 y3 y4) (hushlaw1_RatioReckons.j2 (k + 1) y0 y1 y2 y3 y4)) ∧ (∀ y0 y1 y2 y3 y4, LeO (hushlaw1_RatioReckons.j3 k y0 y1 y2 y3 y4) (hushlaw1_RatioReckons.j3 (k + 1) y0 y1 y2 y3 y4))
  | 0 => ⟨fun _ _ _ _ _ r h => by simp [hushlaw1_RatioReckons.j0] at h, fun _ _ _ _ _ r h => by simp [hushlaw1_RatioReckons.j1] at h, fun _ _ _ _ _ r h => by simp [hushlaw1_RatioReckons.j2] at h, fun _ _ _ _ _ r h => by simp [hushlaw1_RatioReckons.j3] at h⟩
  | k + 1 => by
    obtain ⟨ih0, ih1, ih2, ih3⟩ := hushlaw1_RatioReckons.mono_l k
    refine ⟨?_, ?_, ?_, ?_⟩
    · intro y0 y1 y2 y3 y4
      unfold hushlaw1_RatioReckons.j0
      repeat' first
      | (with_reducible exact ih0 _ _ _ _ _)
      | (with_reducible exact ih1 _ _ _ _ _)
      | (with_reducible exact ih2 _ _ _ _ _)
      | (with_reducible exact ih3 _ _ _ _ _)
      | (with_reducible exact hushref1_Minus.mono _ _ _ _ _)
      | (with_reducible exact hushref1_Order.mono _ _ _ _ _)
      | (with_reducible exact hushref1_Over.mono _ _ _ _ _)
      | (with_reducible exact hushref1_Plus.mono _ _ _ _ _)
      | (with_reducible exact hushref1_Times.mono _ _ _ _ _)
      | (with_reducible exact ratio_Minus.mono _ _ _ _ _)
      | (with_reducible exact ratio_Order.mono _ _ _ _ _)
      | (with_reducible exact ratio_Over.mono _ _ _ _ _)
      | (with_reducible exact ratio_Plus.mono _ _ _ _ _)
      | (with_reducible exact ratio_Times.mono _ _ _ _ _)
      | (with_reducible exact LeO.refl _)
      | (with_reducible exact LeO.none _)
      | (with_reducible refine LeO.ite ?_ ?_)
      | (with_reducible refine LeO.bind ?_ (fun _ => ?_))
      | exact ih0 _ _ _ _ _
      | exact ih1 _ _ _ _ _
      | exact ih2 _ _ _ _ _
      | exact ih3 _ _ _ _ _
      | exact hushref1_Minus.mono _ _ _ _ _
      | exact hushref1_Order.mono _ _ _ _ _
      | exact hushref1_Over.mono _ _ _ _ _
      | exact hushref1_Plus.mono _ _ _ _ _
      | exact hushref1_Times.mono _ _ _ _ _
      | exact ratio_Minus.mono _ _ _ _ _
      | exact ratio_Order.mono _ _ _ _ _
      | exact ratio_Over.mono _ _ _ _ _
      | exact ratio_Plus.mono _ _ _ _ _
      | exact ratio_Times.mono _ _ _ _ _
      | exact LeO.none _
      | refine LeO.ite ?_ ?_
      | refine LeO.bind ?_ (fun _ => ?_)
    · intro y0 y1 y2 y3 y4
      unfold hushlaw1_RatioReckons.j1
      repeat' first
      | (with_reducible exact ih0 _ _ _ _ _)
      | (with_reducible exact ih1 _ _ _ _ _)
      | (with_reducible exact ih2 _ _ _ _ _)
      | (with_reducible exact ih3 _ _ _ _ _)
      | (with_reducible exact hushref1_Minus.mono _ _ _ _ _)
      | (with_reducible exact hushref1_Order.mono _ _ _ _ _)
      | (with_reducible exact hushref1_Over.mono _ _ _ _ _)
      | (with_reducible exact hushref1_Plus.mono _ _ _ _ _)
      | (with_reducible exact hushref1_Times.mono _ _ _ _ _)
      | (with_reducible exact ratio_Minus.mono _ _ _ _ _)
      | (with_reducible exact ratio_Order.mono _ _ _ _ _)
      | (with_reducible exact ratio_Over.mono _ _ _ _ _)
      | (with_reducible exact ratio_Plus.mono _ _ _ _ _)
      | (with_reducible exact ratio_Times.mono _ _ _ _ _)
      | (with_reducible exact LeO.refl _)
      | (with_reducible exact LeO.none _)
      | (with_reducible refine LeO.ite ?_ ?_)
      | (with_reducible refine LeO.bind ?_ (fun _ => ?_))
      | exact ih0 _ _ _ _ _
      | exact ih1 _ _ _ _ _
      | exact ih2 _ _ _ _ _
      | exact ih3 _ _ _ _ _
      | exact hushref1_Minus.mono _ _ _ _ _
      | exact hushref1_Order.mono _ _ _ _ _
      | exact hushref1_Over.mono _ _ _ _ _
      | exact hushref1_Plus.mono _ _ _ _ _
      | exact hushref1_Times.mono _ _ _ _ _
      | exact ratio_Minus.mono _ _ _ _ _
      | exact ratio_Order.mono _ _ _ _ _
      | exact ratio_Over.mono _ _ _ _ _
      | exact ratio_Plus.mono _ _ _ _ _
      | exact ratio_Times.mono _ _ _ _ _
      | exact LeO.none _
      | refine LeO.ite ?_ ?_
      | refine LeO.bind ?_ (fun _ => ?_)
    · intro y0 y1 y2 y3 y4
      unfold hushlaw1_RatioReckons.j2
      repeat' first
      | (with_reducible exact ih0 _ _ _ _ _)
      | (with_reducible exact ih1 _ _ _ _ _)
      | (with_reducible exact ih2 _ _ _ _ _)
      | (with_reducible exact ih3 _ _ _ _ _)
      | (with_reducible exact hushref1_Minus.mono _ _ _ _ _)
      | (with_reducible exact hushref1_Order.mono _ _ _ _ _)
      | (with_reducible exact hushref1_Over.mono _ _ _ _ _)
      | (with_reducible exact hushref1_Plus.mono _ _ _ _ _)
      | (with_reducible exact hushref1_Times.mono _ _ _ _ _)
      | (with_reducible exact ratio_Minus.mono _ _ _ _ _)
      | (with_reducible exact ratio_Order.mono _ _ _ _ _)
      | (with_reducible exact ratio_Over.mono _ _ _ _ _)
      | (with_reducible exact ratio_Plus.mono _ _ _ _ _)
      | (with_reducible exact ratio_Times.mono _ _ _ _ _)
      | (with_reducible exact LeO.refl _)
      | (with_reducible exact LeO.none _)
      | (with_reducible refine LeO.ite ?_ ?_)
      | (with_reducible refine LeO.bind ?_ (fun _ => ?_))
      | exact ih0 _ _ _ _ _
      | exact ih1 _ _ _ _ _
      | exact ih2 _ _ _ _ _
      | exact ih3 _ _ _ _ _
      | exact hushref1_Minus.mono _ _ _ _ _
      | exact hushref1_Order.mono _ _ _ _ _
      | exact hushref1_Over.mono _ _ _ _ _
      | exact hushref1_Plus.mono _ _ _ _ _
      | exact hushref1_Times.mono _ _ _ _ _
      | exact ratio_Minus.mono _ _ _ _ _
      | exact ratio_Order.mono _ _ _ _ _
      | exact ratio_Over.mono _ _ _ _ _
      | exact ratio_Plus.mono _ _ _ _ _
      | exact ratio_Times.mono _ _ _ _ _
      | exact LeO.none _
      | refine LeO.ite ?_ ?_
      | refine LeO.bind ?_ (fun _ => ?_)
    · intro y0 y1 y2 y3 y4
      unfold hushlaw1_RatioReckons.j3
      repeat' first
      | (with_reducible exact ih0 _ _ _ _ _)
      | (with_reducible exact ih1 _ _ _ _ _)
      | (with_reducible exact ih2 _ _ _ _ _)
      | (with_reducible exact ih3 _ _ _ _ _)
      | (with_reducible exact hushref1_Minus.mono _ _ _ _ _)
      | (with_reducible exact hushref1_Order.mono _ _ _ _ _)
      | (with_reducible exact hushref1_Over.mono _ _ _ _ _)
      | (with_reducible exact hushref1_Plus.mono _ _ _ _ _)
      | (with_reducible exact hushref1_Times.mono _ _ _ _ _)
      | (with_reducible exact ratio_Minus.mono _ _ _ _ _)
      | (with_reducible exact ratio_Order.mono _ _ _ _ _)
      | (with_reducible exact ratio_Over.mono _ _ _ _ _)
      | (with_reducible exact ratio_Plus.mono _ _ _ _ _)
      | (with_reducible exact ratio_Times.mono _ _ _ _ _)
      | (with_reducible exact LeO.refl _)
      | (with_reducible exact LeO.none _)
      | (with_reducible refine LeO.ite ?_ ?_)
      | (with_reducible refine LeO.bind ?_ (fun _ => ?_))
      | exact ih0 _ _ _ _ _
      | exact ih1 _ _ _ _ _
      | exact ih2 _ _ _ _ _
      | exact ih3 _ _ _ _ _
      | exact hushref1_Minus.mono _ _ _ _ _
      | exact hushref1_Order.mono _ _ _ _ _
      | exact hushref1_Over.mono _ _ _ _ _
      | exact hushref1_Plus.mono _ _ _ _ _
      | exact hushref1_Times.mono _ _ _ _ _
      | exact ratio_Minus.mono _ _ _ _ _
      | exact ratio_Order.mono _ _ _ _ _
      | exact ratio_Over.mono _ _ _ _ _
      | exact ratio_Plus.mono _ _ _ _ _
      | exact ratio_Times.mono _ _ _ _ _
      | exact LeO.none _
      | refine LeO.ite ?_ ?_
      | refine LeO.bind ?_ (fun _ => ?_)
theorem hushlaw1_RatioReckons.mono : ∀ a0 a1 a2 a3 k, LeO (hushlaw1_RatioReckons.f k a0 a1 a2 a3) (hushlaw1_RatioReckons.f (k + 1) a0 a1 a2 a3) := by
  intro a0 a1 a2 a3 k
  obtain ⟨ih0, ih1, ih2, ih3⟩ := hushlaw1_RatioReckons.mono_l k
  unfold hushlaw1_RatioReckons.f
  repeat' first
      | (with_reducible exact ih0 _ _ _ _ _)
      | (with_reducible exact ih1 _ _ _ _ _)
      | (with_reducible exact ih2 _ _ _ _ _)
      | (with_reducible exact ih3 _ _ _ _ _)
      | (with_reducible exact hushref1_Minus.mono _ _ _ _ _)
      | (with_reducible exact hushref1_Order.mono _ _ _ _ _)
      | (with_reducible exact hushref1_Over.mono _ _ _ _ _)
      | (with_reducible exact hushref1_Plus.mono _ _ _ _ _)
      | (with_reducible exact hushref1_Times.mono _ _ _ _ _)
      | (with_reducible exact ratio_Minus.mono _ _ _ _ _)
      | (with_reducible exact ratio_Order.mono _ _ _ _ _)
      | (with_reducible exact ratio_Over.mono _ _ _ _ _)
      | (with_reducible exact ratio_Plus.mono _ _ _ _ _)
      | (with_reducible exact ratio_Times.mono _ _ _ _ _)
      | (with_reducible exact LeO.refl _)
      | (with_reducible exact LeO.none _)
      | (with_reducible refine LeO.ite ?_ ?_)
      | (with_reducible refine LeO.bind ?_ (fun _ => ?_))
      | exact ih0 _ _ _ _ _
      | exact ih1 _ _ _ _ _
      | exact ih2 _ _ _ _ _
      | exact ih3 _ _ _ _ _
      | exact hushref1_Minus.mono _ _ _ _ _
      | exact hushref1_Order.mono _ _ _ _ _
      | exact hushref1_Over.mono _ _ _ _ _
      | exact hushref1_Plus.mono _ _ _ _ _
      | exact hushref1_Times.mono _ _ _ _ _
      | exact ratio_Minus.mono _ _ _ _ _
      | exact ratio_Order.mono _ _ _ _ _
      | exact ratio_Over.mono _ _ _ _ _
      | exact ratio_Plus.mono _ _ _ _ _
      | exact ratio_Times.mono _ _ _ _ _
      | exact LeO.none _
      | refine LeO.ite ?_ ?_
      | refine LeO.bind ?_ (fun _ => ?_)
set_option maxHeartbeats 8000000 in
set_option maxRecDepth 100000 in
theorem hushlaw1_RatioReckons.calls (k : Nat) (a0_0 : Int) (a0_1 : Int) (a1_0 : Int) (a1_1 : Int) (r : Bool) (w : World) (h : hushlaw1_RatioReckons.f k a0_0 a0_1 a1_0 a1_1 = some r) :
    Calls Try.prog 6 #[.agg #[.int .i64 a0_0, .int .i64 a0_1], .agg #[.int .i64 a1_0, .int .i64 a1_1]] w fun e w' => e = .returned (.bool r) ∧ Below w.heap.size w w' := by
  have hu23 := Try.underlying23
  have HB := Aside0.mk (Below.refl w.heap.size w)
  have H : ((ratio_Times.f k a0_0 a0_1 a1_0 a1_1).bind fun bt284 => ((hushref1_Times.f k a0_0 a0_1 a1_0 a1_1).bind fun bt288 => (if (!(bt284.1 == bt288.1) || (!(bt284.2.1 == bt288.2.1))) = true then (hushlaw1_RatioReckons.j0 k true a0_0 a0_1 a1_0 a1_1) else (hushlaw1_RatioReckons.j0 k (bt284.2.2 != bt288.2.2) a0_0 a0_1 a1_0 a1_1)))) = some r := h
  clear h
  replace H := Option.bind_eq_some_iff.mp H
  obtain ⟨⟨t284, t285, t286⟩, A30, H⟩ := H
  replace H : ((hushref1_Times.f k a0_0 a0_1 a1_0 a1_1).bind fun bt288 => (if (!(t284 == bt288.1) || (!(t285 == bt288.2.1))) = true then (hushlaw1_RatioReckons.j0 k true a0_0 a0_1 a1_0 a1_1) else (hushlaw1_RatioReckons.j0 k (t286 != bt288.2.2) a0_0 a0_1 a1_0 a1_1))) = some r := H
  have A3 := Aside0.mk A30
  clear A30
  replace H := Option.bind_eq_some_iff.mp H
  obtain ⟨⟨t288, t289, t290⟩, A40, H⟩ := H
  replace H : (if (!(t284 == t288) || (!(t285 == t289))) = true then (hushlaw1_RatioReckons.j0 k true a0_0 a0_1 a1_0 a1_1) else (hushlaw1_RatioReckons.j0 k (t286 != t290) a0_0 a0_1 a1_0 a1_1)) = some r := H
  have A4 := Aside0.mk A40
  clear A40
  have HC5 := Aside0.mk H
  clear H
  go_enter Try.func6, Try.ntmps6
  go_upto_region 3 with (first | ((with_reducible refine gate_dst (N := 2) rfl ?_); refine box_event ?hg (N := 2) ?hd (cs := #[.int .i64 a0_0, .int .i64 a0_1]) (t := 23) ?hr ?_; (case hd => rfl); (case hg => rfl); (case hr => first | (go_simp; done) | (go_simp; rfl)); intro gb282 hg w6 hbox hb; have n0_ := Aside0.mk (below_step (by repeat (first | (with_reducible first | exact HB.out | apply below_alloc | apply pw_below_drewN | apply below_drew1) | exact HB.out)) hb); have n1_ := Aside0.mk (hbox); have n2_ := Aside0.mk ((by rw [hg]; exact (below_size (by repeat (first | (with_reducible first | exact HB.out | apply below_alloc | apply pw_below_drewN | apply below_drew1) | exact HB.out))) : w.heap.size ≤ gb282)); have n3_ := Aside0.mk ((by rw [hg]; exact (below_size (by repeat (first | (with_reducible first | exact HB.out | apply below_alloc | apply pw_below_drewN | apply below_drew1) | exact HB.out))) : w.heap.size ≤ gb282)); clear HB; have HB := n0_; have BK282 := n1_; have GW282 := n2_; have GE282 := n3_; clear n0_ n1_ n2_ n3_; clear hb hbox hg) | ((with_reducible refine gate_dst (N := 3) rfl ?_); refine box_event ?hg (N := 3) ?hd (cs := #[.int .i64 a1_0, .int .i64 a1_1]) (t := 23) ?hr ?_; (case hd => rfl); (case hg => rfl); (case hr => first | (go_simp; done) | (go_simp; rfl)); intro gb283 hg w7 hbox hb; have n0_ := Aside0.mk (blk_below (g := gb282) (o := .cells #[.int .i64 a0_0, .int .i64 a0_1] 23 (0, 0)) (by (with_reducible repeat (first | refine blk_drewN ?_ _ | refine blk_drew ?_ | refine blk_alloc ?_ _)); exact BK282.out) hb); have n1_ := Aside0.mk (below_step (by repeat (first | (with_reducible first | exact HB.out | apply below_alloc | apply pw_below_drewN | apply below_drew1 | refine below_set ?_ GE282.out) | exact HB.out)) hb); have n2_ := Aside0.mk (hbox); have n3_ := Aside0.mk ((by rw [hg]; exact (below_size (by repeat (first | (with_reducible first | exact HB.out | apply below_alloc | apply pw_below_drewN | apply below_drew1 | refine below_set ?_ GE282.out) | exact HB.out))) : w.heap.size ≤ gb283)); have n4_ := Aside0.mk ((by rw [hg]; exact (below_size (by repeat (first | (with_reducible first | exact HB.out | apply below_alloc | apply pw_below_drewN | apply below_drew1 | refine below_set ?_ GE282.out) | exact HB.out))) : w.heap.size ≤ gb283)); have n5_ := Aside0.mk ((by rw [hg]; exact Nat.ne_of_lt (blk_lt (g := gb282) (o := .cells #[.int .i64 a0_0, .int .i64 a0_1] 23 (0, 0)) (by (with_reducible repeat (first | refine blk_drewN ?_ _ | refine blk_drew ?_ | refine blk_alloc ?_ _)); exact BK282.out)) : gb282 ≠ gb283)); have n6_ := Aside0.mk ((by rw [hg]; exact Nat.ne_of_gt (blk_lt (g := gb282) (o := .cells #[.int .i64 a0_0, .int .i64 a0_1] 23 (0, 0)) (by (with_reducible repeat (first | refine blk_drewN ?_ _ | refine blk_drew ?_ | refine blk_alloc ?_ _)); exact BK282.out)) : gb283 ≠ gb282)); clear BK282; clear HB; have BK282 := n0_; have HB := n1_; have BK283 := n2_; have GW283 := n3_; have GE283 := n4_; have NB282_283 := n5_; have NB283_282 := n6_; clear n0_ n1_ n2_ n3_ n4_ n5_ n6_; clear hb hbox hg; have hnb8 := NB282_283.out; have hnc8 := NB283_282.out; have hcz9_0 : w7.cell? ⟨gb282, 0, none⟩ = some (.int .i64 a0_0) := (blk_cell BK282.out 0).trans rfl; have hcz9_1 : w7.cell? ⟨gb282, 1, none⟩ = some (.int .i64 a0_1) := (blk_cell BK282.out 1).trans rfl; have hfz9_0 := blk_frozen BK282.out 0; have hfz9_1 := blk_frozen BK282.out 1; have hcz10_0 : w7.cell? ⟨gb283, 0, none⟩ = some (.int .i64 a1_0) := (blk_cell BK283.out 0).trans rfl; have hcz10_1 : w7.cell? ⟨gb283, 1, none⟩ = some (.int .i64 a1_1) := (blk_cell BK283.out 1).trans rfl; have hfz10_0 := blk_frozen BK283.out 0; have hfz10_1 := blk_frozen BK283.out 1) | ((with_reducible refine gate_callee (f := 18) rfl ?_); refine goesL_ (some 14) rfl rfl Try.func18 (by kernel_rfl) rfl #[.agg #[.int .i64 a0_0, .int .i64 a0_1], .agg #[.int .i64 a1_0, .int .i64 a1_1]] rfl (by (try simp only [List.map_toArray, List.map_cons, List.map_nil]); first | done | rfl | (simp only [List.length_drop, List.length_take]; rfl)) ?_; (with_reducible refine (ratio_Times.calls k a0_0 a0_1 a1_0 a1_1 t284 t285 t286 _ A3.out).mono ?_); rintro e w11 ⟨rfl, hb⟩; refine ⟨_, rfl, ?_⟩; have n0_ := Aside0.mk (blk_below (g := gb282) (o := .cells #[.int .i64 a0_0, .int .i64 a0_1] 23 (0, 0)) (by (with_reducible repeat (first | refine blk_drewN ?_ _ | refine blk_drew ?_ | refine blk_alloc ?_ _)); exact BK282.out) hb); have n1_ := Aside0.mk (blk_below (g := gb283) (o := .cells #[.int .i64 a1_0, .int .i64 a1_1] 23 (0, 0)) (by (with_reducible repeat (first | refine blk_drewN ?_ _ | refine blk_drew ?_ | refine blk_alloc ?_ _)); exact BK283.out) hb); have n2_ := Aside0.mk (below_step (by repeat (first | (with_reducible first | exact HB.out | apply below_alloc | apply pw_below_drewN | apply below_drew1 | refine below_set ?_ GE282.out | refine below_set ?_ GE283.out) | exact HB.out)) hb); clear BK282; clear BK283; clear HB; have BK282 := n0_; have BK283 := n1_; have HB := n2_; clear n0_ n1_ n2_; (try clear hb); (try clear hb2); (try clear hk); (try clear hi)) | ((with_reducible refine gate_dst (N := 5) rfl ?_); refine box_event ?hg (N := 5) ?hd (cs := #[.int .i64 0, .int .i64 0]) (t := 23) ?hr ?_; (case hd => rfl); (case hg => rfl); (case hr => first | (go_simp; done) | (go_simp; rfl)); intro gb287 hg w12 hbox hb; have n0_ := Aside0.mk (blk_below (g := gb282) (o := .cells #[.int .i64 a0_0, .int .i64 a0_1] 23 (0, 0)) (by (with_reducible repeat (first | refine blk_drewN ?_ _ | refine blk_drew ?_ | refine blk_alloc ?_ _)); exact BK282.out) hb); have n1_ := Aside0.mk (blk_below (g := gb283) (o := .cells #[.int .i64 a1_0, .int .i64 a1_1] 23 (0, 0)) (by (with_reducible repeat (first | refine blk_drewN ?_ _ | refine blk_drew ?_ | refine blk_alloc ?_ _)); exact BK283.out) hb); have n2_ := Aside0.mk (below_step (by repeat (first | (with_reducible first | exact HB.out | apply below_alloc | apply pw_below_drewN | apply below_drew1 | refine below_set ?_ GE282.out | refine below_set ?_ GE283.out) | exact HB.out)) hb); have n3_ := Aside0.mk (hbox); have n4_ := Aside0.mk ((by rw [hg]; exact (below_size (by repeat (first | (with_reducible first | exact HB.out | apply below_alloc | apply pw_below_drewN | apply below_drew1 | refine below_set ?_ GE282.out | refine below_set ?_ GE283.out) | exact HB.out))) : w.heap.size ≤ gb287)); have n5_ := Aside0.mk ((by rw [hg]; exact (below_size (by repeat (first | (with_reducible first | exact HB.out | apply below_alloc | apply pw_below_drewN | apply below_drew1 | refine below_set ?_ GE282.out | refine below_set ?_ GE283.out) | exact HB.out))) : w.heap.size ≤ gb287)); have n6_ := Aside0.mk ((by rw [hg]; exact Nat.ne_of_lt (blk_lt (g := gb282) (o := .cells #[.int .i64 a0_0, .int .i64 a0_1] 23 (0, 0)) (by (with_reducible repeat (first | refine blk_drewN ?_ _ | refine blk_drew ?_ | refine blk_alloc ?_ _)); exact BK282.out)) : gb282 ≠ gb287)); have n7_ := Aside0.mk ((by rw [hg]; exact Nat.ne_of_gt (blk_lt (g := gb282) (o := .cells #[.int .i64 a0_0, .int .i64 a0_1] 23 (0, 0)) (by (with_reducible repeat (first | refine blk_drewN ?_ _ | refine blk_drew ?_ | refine blk_alloc ?_ _)); exact BK282.out)) : gb287 ≠ gb282)); have n8_ := Aside0.mk ((by rw [hg]; exact Nat.ne_of_lt (blk_lt (g := gb283) (o := .cells #[.int .i64 a1_0, .int .i64 a1_1] 23 (0, 0)) (by (with_reducible repeat (first | refine blk_drewN ?_ _ | refine blk_drew ?_ | refine blk_alloc ?_ _)); exact BK283.out)) : gb283 ≠ gb287)); have n9_ := Aside0.mk ((by rw [hg]; exact Nat.ne_of_gt (blk_lt (g := gb283) (o := .cells #[.int .i64 a1_0, .int .i64 a1_1] 23 (0, 0)) (by (with_reducible repeat (first | refine blk_drewN ?_ _ | refine blk_drew ?_ | refine blk_alloc ?_ _)); exact BK283.out)) : gb287 ≠ gb283)); clear BK282; clear BK283; clear HB; have BK282 := n0_; have BK283 := n1_; have HB := n2_; have BK287 := n3_; have GW287 := n4_; have GE287 := n5_; have NB282_287 := n6_; have NB287_282 := n7_; have NB283_287 := n8_; have NB287_283 := n9_; clear n0_ n1_ n2_ n3_ n4_ n5_ n6_ n7_ n8_ n9_; clear hb hbox hg; have hnb13 := NB287_282.out; have hnc13 := NB282_287.out; have hnb14 := NB287_283.out; have hnc14 := NB283_287.out; have hcz15_0 : w12.cell? ⟨gb287, 0, none⟩ = some (.int .i64 0) := (blk_cell BK287.out 0).trans rfl; have hcz15_1 : w12.cell? ⟨gb287, 1, none⟩ = some (.int .i64 0) := (blk_cell BK287.out 1).trans rfl; have hfz15_0 := blk_frozen BK287.out 0; have hfz15_1 := blk_frozen BK287.out 1; have hcz16_0 : w12.cell? ⟨gb282, 0, none⟩ = some (.int .i64 a0_0) := (blk_cell BK282.out 0).trans rfl; have hcz16_1 : w12.cell? ⟨gb282, 1, none⟩ = some (.int .i64 a0_1) := (blk_cell BK282.out 1).trans rfl; have hfz16_0 := blk_frozen BK282.out 0; have hfz16_1 := blk_frozen BK282.out 1; have hcz17_0 : w12.cell? ⟨gb283, 0, none⟩ = some (.int .i64 a1_0) := (blk_cell BK283.out 0).trans rfl; have hcz17_1 : w12.cell? ⟨gb283, 1, none⟩ = some (.int .i64 a1_1) := (blk_cell BK283.out 1).trans rfl; have hfz17_0 := blk_frozen BK283.out 0; have hfz17_1 := blk_frozen BK283.out 1) | ((with_reducible refine gate_callee (f := 19) rfl ?_); refine goesL_ (some 20) rfl rfl Try.func19 (by kernel_rfl) rfl #[.agg #[.int .i64 a0_0, .int .i64 a0_1], .agg #[.int .i64 a1_0, .int .i64 a1_1]] rfl (by (try simp only [List.map_toArray, List.map_cons, List.map_nil]); first | done | rfl | (simp only [List.length_drop, List.length_take]; rfl)) ?_; (with_reducible refine (hushref1_Times.calls k a0_0 a0_1 a1_0 a1_1 t288 t289 t290 _ A4.out).mono ?_); rintro e w18 ⟨rfl, hb⟩; refine ⟨_, rfl, ?_⟩; have n0_ := Aside0.mk (blk_below (g := gb282) (o := .cells #[.int .i64 a0_0, .int .i64 a0_1] 23 (0, 0)) (by (with_reducible repeat (first | refine blk_drewN ?_ _ | refine blk_drew ?_ | refine blk_alloc ?_ _)); refine blk_far ?_ NB282_287.out _; (with_reducible repeat (first | refine blk_drewN ?_ _ | refine blk_drew ?_ | refine blk_alloc ?_ _)); refine blk_far ?_ NB282_287.out _; (with_reducible repeat (first | refine blk_drewN ?_ _ | refine blk_drew ?_ | refine blk_alloc ?_ _)); exact BK282.out) hb); have n1_ := Aside0.mk (blk_below (g := gb283) (o := .cells #[.int .i64 a1_0, .int .i64 a1_1] 23 (0, 0)) (by (with_reducible repeat (first | refine blk_drewN ?_ _ | refine blk_drew ?_ | refine blk_alloc ?_ _)); refine blk_far ?_ NB283_287.out _; (with_reducible repeat (first | refine blk_drewN ?_ _ | refine blk_drew ?_ | refine blk_alloc ?_ _)); refine blk_far ?_ NB283_287.out _; (with_reducible repeat (first | refine blk_drewN ?_ _ | refine blk_drew ?_ | refine blk_alloc ?_ _)); exact BK283.out) hb); have n2_ := Aside0.mk (blk_below (g := gb287) (o := .cells #[.int .i64 t284, .int .i64 t285] 23 (0, 0)) (by (with_reducible repeat (first | refine blk_drewN ?_ _ | refine blk_drew ?_ | refine blk_alloc ?_ _)); refine blk_put (cs := #[.int .i64 t284, .int .i64 0]) ?_ 1 _ rfl; (with_reducible repeat (first | refine blk_drewN ?_ _ | refine blk_drew ?_ | refine blk_alloc ?_ _)); refine blk_put (cs := #[.int .i64 0, .int .i64 0]) ?_ 0 _ rfl; (with_reducible repeat (first | refine blk_drewN ?_ _ | refine blk_drew ?_ | refine blk_alloc ?_ _)); exact BK287.out) hb); have n3_ := Aside0.mk (below_step (by repeat (first | (with_reducible first | exact HB.out | apply below_alloc | apply pw_below_drewN | apply below_drew1 | refine below_set ?_ GE282.out | refine below_set ?_ GE283.out | refine below_set ?_ GE287.out) | exact HB.out)) hb); clear BK282; clear BK283; clear BK287; clear HB; have BK282 := n0_; have BK283 := n1_; have BK287 := n2_; have HB := n3_; clear n0_ n1_ n2_ n3_; (try clear hb); (try clear hb2); (try clear hk); (try clear hi)) | ((with_reducible refine gate_dst (N := 7) rfl ?_); refine box_event ?hg (N := 7) ?hd (cs := #[.int .i64 0, .int .i64 0]) (t := 23) ?hr ?_; (case hd => rfl); (case hg => rfl); (case hr => first | (go_simp; done) | (go_simp; rfl)); intro gb291 hg w19 hbox hb; have n0_ := Aside0.mk (blk_below (g := gb282) (o := .cells #[.int .i64 a0_0, .int .i64 a0_1] 23 (0, 0)) (by (with_reducible repeat (first | refine blk_drewN ?_ _ | refine blk_drew ?_ | refine blk_alloc ?_ _)); exact BK282.out) hb); have n1_ := Aside0.mk (blk_below (g := gb283) (o := .cells #[.int .i64 a1_0, .int .i64 a1_1] 23 (0, 0)) (by (with_reducible repeat (first | refine blk_drewN ?_ _ | refine blk_drew ?_ | refine blk_alloc ?_ _)); exact BK283.out) hb); have n2_ := Aside0.mk (blk_below (g := gb287) (o := .cells #[.int .i64 t284, .int .i64 t285] 23 (0, 0)) (by (with_reducible repeat (first | refine blk_drewN ?_ _ | refine blk_drew ?_ | refine blk_alloc ?_ _)); exact BK287.out) hb); have n3_ := Aside0.mk (below_step (by repeat (first | (with_reducible first | exact HB.out | apply below_alloc | apply pw_below_drewN | apply below_drew1 | refine below_set ?_ GE282.out | refine below_set ?_ GE283.out | refine below_set ?_ GE287.out) | exact HB.out)) hb); have n4_ := Aside0.mk (hbox); have n5_ := Aside0.mk ((by rw [hg]; exact (below_size (by repeat (first | (with_reducible first | exact HB.out | apply below_alloc | apply pw_below_drewN | apply below_drew1 | refine below_set ?_ GE282.out | refine below_set ?_ GE283.out | refine below_set ?_ GE287.out) | exact HB.out))) : w.heap.size ≤ gb291)); have n6_ := Aside0.mk ((by rw [hg]; exact (below_size (by repeat (first | (with_reducible first | exact HB.out | apply below_alloc | apply pw_below_drewN | apply below_drew1 | refine below_set ?_ GE282.out | refine below_set ?_ GE283.out | refine below_set ?_ GE287.out) | exact HB.out))) : w.heap.size ≤ gb291)); have n7_ := Aside0.mk ((by rw [hg]; exact Nat.ne_of_lt (blk_lt (g := gb282) (o := .cells #[.int .i64 a0_0, .int .i64 a0_1] 23 (0, 0)) (by (with_reducible repeat (first | refine blk_drewN ?_ _ | refine blk_drew ?_ | refine blk_alloc ?_ _)); exact BK282.out)) : gb282 ≠ gb291)); have n8_ := Aside0.mk ((by rw [hg]; exact Nat.ne_of_gt (blk_lt (g := gb282) (o := .cells #[.int .i64 a0_0, .int .i64 a0_1] 23 (0, 0)) (by (with_reducible repeat (first | refine blk_drewN ?_ _ | refine blk_drew ?_ | refine blk_alloc ?_ _)); exact BK282.out)) : gb291 ≠ gb282)); have n9_ := Aside0.mk ((by rw [hg]; exact Nat.ne_of_lt (blk_lt (g := gb283) (o := .cells #[.int .i64 a1_0, .int .i64 a1_1] 23 (0, 0)) (by (with_reducible repeat (first | refine blk_drewN ?_ _ | refine blk_drew ?_ | refine blk_alloc ?_ _)); exact BK283.out)) : gb283 ≠ gb291)); have n10_ := Aside0.mk ((by rw [hg]; exact Nat.ne_of_gt (blk_lt (g := gb283) (o := .cells #[.int .i64 a1_0, .int .i64 a1_1] 23 (0, 0)) (by (with_reducible repeat (first | refine blk_drewN ?_ _ | refine blk_drew ?_ | refine blk_alloc ?_ _)); exact BK283.out)) : gb291 ≠ gb283)); have n11_ := Aside0.mk ((by rw [hg]; exact Nat.ne_of_lt (blk_lt (g := gb287) (o := .cells #[.int .i64 t284, .int .i64 t285] 23 (0, 0)) (by (with_reducible repeat (first | refine blk_drewN ?_ _ | refine blk_drew ?_ | refine blk_alloc ?_ _)); exact BK287.out)) : gb287 ≠ gb291)); have n12_ := Aside0.mk ((by rw [hg]; exact Nat.ne_of_gt (blk_lt (g := gb287) (o := .cells #[.int .i64 t284, .int .i64 t285] 23 (0, 0)) (by (with_reducible repeat (first | refine blk_drewN ?_ _ | refine blk_drew ?_ | refine blk_alloc ?_ _)); exact BK287.out)) : gb291 ≠ gb287)); clear BK282; clear BK283; clear BK287; clear HB; have BK282 := n0_; have BK283 := n1_; have BK287 := n2_; have HB := n3_; have BK291 := n4_; have GW291 := n5_; have GE291 := n6_; have NB282_291 := n7_; have NB291_282 := n8_; have NB283_291 := n9_; have NB291_283 := n10_; have NB287_291 := n11_; have NB291_287 := n12_; clear n0_ n1_ n2_ n3_ n4_ n5_ n6_ n7_ n8_ n9_ n10_ n11_ n12_; clear hb hbox hg; have hnb20 := NB291_282.out; have hnc20 := NB282_291.out; have hnb21 := NB291_283.out; have hnc21 := NB283_291.out; have hnb22 := NB291_287.out; have hnc22 := NB287_291.out; have hcz23_0 : w19.cell? ⟨gb291, 0, none⟩ = some (.int .i64 0) := (blk_cell BK291.out 0).trans rfl; have hcz23_1 : w19.cell? ⟨gb291, 1, none⟩ = some (.int .i64 0) := (blk_cell BK291.out 1).trans rfl; have hfz23_0 := blk_frozen BK291.out 0; have hfz23_1 := blk_frozen BK291.out 1))
  (try simp only [Act.put, List.setIfInBounds_toArray, List.set_cons_zero, List.set_cons_succ])
  go_cut [30] (fun v30 wc => ∃ (kq : Nat) (x30_4 : Bool), v30 = .bool x30_4 ∧ Aside0 (hushlaw1_RatioReckons.j0 kq x30_4 a0_0 a0_1 a1_0 a1_1 = some r) ∧ Aside0 (kq ≤ k) ∧ Aside0 (wc.heap[gb282]? = some (.cells #[.int .i64 a0_0, .int .i64 a0_1] 23 (0, 0))) ∧ Aside0 (wc.heap[gb283]? = some (.cells #[.int .i64 a1_0, .int .i64 a1_1] 23 (0, 0))) ∧ Aside0 (wc.heap[gb287]? = some (.cells #[.int .i64 t284, .int .i64 t285] 23 (0, 0))) ∧ Aside0 (wc.heap[gb291]? = some (.cells #[.int .i64 t288, .int .i64 t289] 23 (0, 0))) ∧ Aside0 (Below w.heap.size w wc))
  case first =>
    have H := HC5.out
    clear HC5
    by_cases c24 : (!(t284 == t288) || (!(t285 == t289))) = true
    · rw [if_pos c24] at H
      have c24b0 : (!(t284 == t288) || (!(t285 == t289))) = true := c24
      clear c24
      (first | rw [c24b0] | (simp only [i64_w, i32_w]; rw [c24b0]) | skip)
      have H' := Aside0.mk H
      clear H
      have hnb25 := NB287_282.out
      have hnc25 := NB282_287.out
      have hnb26 := NB287_283.out
      have hnc26 := NB283_287.out
      have hnb27 := NB287_291.out
      have hnc27 := NB291_287.out
      have hcz28_0 : w19.cell? ⟨gb287, 0, none⟩ = some (.int .i64 t284) := (blk_cell BK287.out 0).trans rfl
      have hcz28_1 : w19.cell? ⟨gb287, 1, none⟩ = some (.int .i64 t285) := (blk_cell BK287.out 1).trans rfl
      have hfz28_0 := blk_frozen BK287.out 0
      have hfz28_1 := blk_frozen BK287.out 1
      have hnb29 := NB291_282.out
      have hnc29 := NB282_291.out
      have hnb30 := NB291_283.out
      have hnc30 := NB283_291.out
      have hcz31_0 : w19.cell? ⟨gb291, 0, none⟩ = some (.int .i64 0) := (blk_cell BK291.out 0).trans rfl
      have hcz31_1 : w19.cell? ⟨gb291, 1, none⟩ = some (.int .i64 0) := (blk_cell BK291.out 1).trans rfl
      have hfz31_0 := blk_frozen BK291.out 0
      have hfz31_1 := blk_frozen BK291.out 1
      go_wp2
      go_meet
      case rel => exact ⟨_, (true), (by first | rfl | (simp; done) | (simp [*]; done)), H', ⟨by first | omega | exact Nat.le_refl _⟩, ⟨by (with_reducible repeat (first | refine blk_drewN ?_ _ | refine blk_drew ?_ | refine blk_alloc ?_ _)); refine blk_far ?_ NB282_291.out _; (with_reducible repeat (first | refine blk_drewN ?_ _ | refine blk_drew ?_ | refine blk_alloc ?_ _)); refine blk_far ?_ NB282_291.out _; (with_reducible repeat (first | refine blk_drewN ?_ _ | refine blk_drew ?_ | refine blk_alloc ?_ _)); exact BK282.out⟩, ⟨by (with_reducible repeat (first | refine blk_drewN ?_ _ | refine blk_drew ?_ | refine blk_alloc ?_ _)); refine blk_far ?_ NB283_291.out _; (with_reducible repeat (first | refine blk_drewN ?_ _ | refine blk_drew ?_ | refine blk_alloc ?_ _)); refine blk_far ?_ NB283_291.out _; (with_reducible repeat (first | refine blk_drewN ?_ _ | refine blk_drew ?_ | refine blk_alloc ?_ _)); exact BK283.out⟩, ⟨by (with_reducible repeat (first | refine blk_drewN ?_ _ | refine blk_drew ?_ | refine blk_alloc ?_ _)); refine blk_far ?_ NB287_291.out _; (with_reducible repeat (first | refine blk_drewN ?_ _ | refine blk_drew ?_ | refine blk_alloc ?_ _)); refine blk_far ?_ NB287_291.out _; (with_reducible repeat (first | refine blk_drewN ?_ _ | refine blk_drew ?_ | refine blk_alloc ?_ _)); exact BK287.out⟩, ⟨by (with_reducible repeat (first | refine blk_drewN ?_ _ | refine blk_drew ?_ | refine blk_alloc ?_ _)); refine blk_put (cs := #[.int .i64 t288, .int .i64 0]) ?_ 1 _ rfl; (with_reducible repeat (first | refine blk_drewN ?_ _ | refine blk_drew ?_ | refine blk_alloc ?_ _)); refine blk_put (cs := #[.int .i64 0, .int .i64 0]) ?_ 0 _ rfl; (with_reducible repeat (first | refine blk_drewN ?_ _ | refine blk_drew ?_ | refine blk_alloc ?_ _)); exact BK291.out⟩, ⟨by repeat (first | (with_reducible first | exact HB.out | apply below_alloc | apply pw_below_drewN | apply below_drew1 | refine below_set ?_ GE282.out | refine below_set ?_ GE283.out | refine below_set ?_ GE287.out | refine below_set ?_ GE291.out) | exact HB.out)⟩⟩
    · rw [if_neg c24] at H
      have c24b0 : (!(t284 == t288) || (!(t285 == t289))) = false := by simpa using c24
      clear c24
      (first | rw [c24b0] | (simp only [i64_w, i32_w]; rw [c24b0]) | skip)
      have H' := Aside0.mk H
      clear H
      have hnb32 := NB287_282.out
      have hnc32 := NB282_287.out
      have hnb33 := NB287_283.out
      have hnc33 := NB283_287.out
      have hnb34 := NB287_291.out
      have hnc34 := NB291_287.out
      have hcz35_0 : w19.cell? ⟨gb287, 0, none⟩ = some (.int .i64 t284) := (blk_cell BK287.out 0).trans rfl
      have hcz35_1 : w19.cell? ⟨gb287, 1, none⟩ = some (.int .i64 t285) := (blk_cell BK287.out 1).trans rfl
      have hfz35_0 := blk_frozen BK287.out 0
      have hfz35_1 := blk_frozen BK287.out 1
      have hnb36 := NB291_282.out
      have hnc36 := NB282_291.out
      have hnb37 := NB291_283.out
      have hnc37 := NB283_291.out
      have hcz38_0 : w19.cell? ⟨gb291, 0, none⟩ = some (.int .i64 0) := (blk_cell BK291.out 0).trans rfl
      have hcz38_1 : w19.cell? ⟨gb291, 1, none⟩ = some (.int .i64 0) := (blk_cell BK291.out 1).trans rfl
      have hfz38_0 := blk_frozen BK291.out 0
      have hfz38_1 := blk_frozen BK291.out 1
      go_wp2
      go_meet
      case rel => exact ⟨_, ((t286 != t290)), (by first | rfl | (simp; done) | (simp [*]; done)), H', ⟨by first | omega | exact Nat.le_refl _⟩, ⟨by (with_reducible repeat (first | refine blk_drewN ?_ _ | refine blk_drew ?_ | refine blk_alloc ?_ _)); refine blk_far ?_ NB282_291.out _; (with_reducible repeat (first | refine blk_drewN ?_ _ | refine blk_drew ?_ | refine blk_alloc ?_ _)); refine blk_far ?_ NB282_291.out _; (with_reducible repeat (first | refine blk_drewN ?_ _ | refine blk_drew ?_ | refine blk_alloc ?_ _)); exact BK282.out⟩, ⟨by (with_reducible repeat (first | refine blk_drewN ?_ _ | refine blk_drew ?_ | refine blk_alloc ?_ _)); refine blk_far ?_ NB283_291.out _; (with_reducible repeat (first | refine blk_drewN ?_ _ | refine blk_drew ?_ | refine blk_alloc ?_ _)); refine blk_far ?_ NB283_291.out _; (with_reducible repeat (first | refine blk_drewN ?_ _ | refine blk_drew ?_ | refine blk_alloc ?_ _)); exact BK283.out⟩, ⟨by (with_reducible repeat (first | refine blk_drewN ?_ _ | refine blk_drew ?_ | refine blk_alloc ?_ _)); refine blk_far ?_ NB287_291.out _; (with_reducible repeat (first | refine blk_drewN ?_ _ | refine blk_drew ?_ | refine blk_alloc ?_ _)); refine blk_far ?_ NB287_291.out _; (with_reducible repeat (first | refine blk_drewN ?_ _ | refine blk_drew ?_ | refine blk_alloc ?_ _)); exact BK287.out⟩, ⟨by (with_reducible repeat (first | refine blk_drewN ?_ _ | refine blk_drew ?_ | refine blk_alloc ?_ _)); refine blk_put (cs := #[.int .i64 t288, .int .i64 0]) ?_ 1 _ rfl; (with_reducible repeat (first | refine blk_drewN ?_ _ | refine blk_drew ?_ | refine blk_alloc ?_ _)); refine blk_put (cs := #[.int .i64 0, .int .i64 0]) ?_ 0 _ rfl; (with_reducible repeat (first | refine blk_drewN ?_ _ | refine blk_drew ?_ | refine blk_alloc ?_ _)); exact BK291.out⟩, ⟨by repeat (first | (with_reducible first | exact HB.out | apply below_alloc | apply pw_below_drewN | apply below_drew1 | refine below_set ?_ GE282.out | refine below_set ?_ GE283.out | refine below_set ?_ GE287.out | refine below_set ?_ GE291.out) | exact HB.out)⟩⟩
  case rest =>
    clear HC5
    try clear c1
    try clear c2
    try clear p2
    try clear c3
    try clear c6
    try clear c8
    try clear c13
    try clear c14
    try clear c18
    try clear c19
    try clear c20
    try clear c21
    try clear c22
    try clear c24
    try clear c24b0
    try clear c25
    try clear c26
    try clear c27
    try clear c29
    try clear c30
    try clear c32
    try clear c33
    try clear c34
    try clear c36
    try clear c37
    try clear hcz10_0
    try clear hcz10_1
    try clear hcz15_0
    try clear hcz15_1
    try clear hcz16_0
    try clear hcz16_1
    try clear hcz17_0
    try clear hcz17_1
    try clear hcz23_0
    try clear hcz23_1
    try clear hcz28_0
    try clear hcz28_1
    try clear hcz31_0
    try clear hcz31_1
    try clear hcz35_0
    try clear hcz35_1
    try clear hcz38_0
    try clear hcz38_1
    try clear hcz9_0
    try clear hcz9_1
    try clear hfz10_0
    try clear hfz10_1
    try clear hfz15_0
    try clear hfz15_1
    try clear hfz16_0
    try clear hfz16_1
    try clear hfz17_0
    try clear hfz17_1
    try clear hfz23_0
    try clear hfz23_1
    try clear hfz28_0
    try clear hfz28_1
    try clear hfz31_0
    try clear hfz31_1
    try clear hfz35_0
    try clear hfz35_1
    try clear hfz38_0
    try clear hfz38_1
    try clear hfz9_0
    try clear hfz9_1
    obtain ⟨kq, x30_4, rfl, HA, HJ4, BK282, BK283, BK287, BK291, HB⟩ := hcut
    cases kq with
    | zero => exact absurd HA.out (by simp [hushlaw1_RatioReckons.j0])
    | succ kj4 =>
      have H := HA.out
      clear HA
      simp only [hushlaw1_RatioReckons.j0] at H
      by_cases c39 : x30_4 = true
      · subst c39
        have H1 : (some false) = some r := by rw [if_pos rfl] at H; exact H
        clear H
        have H := H1
        clear H1
        obtain rfl := Option.some.inj H
        go_wp2
        go_ret
        exact ⟨by first | rfl | (simp [errW_none, errW_some] <;> rfl) | (simp [*, errW_none, errW_some] <;> rfl), by repeat (first | (with_reducible first | exact HB.out | apply below_alloc | apply pw_below_drewN | apply below_drew1 | refine below_set ?_ GE282.out | refine below_set ?_ GE283.out | refine below_set ?_ GE287.out | refine below_set ?_ GE291.out) | exact HB.out)⟩
      · replace c39 := Bool.eq_false_iff.mpr c39
        subst c39
        have H1 : ((ratio_Over.f kj4 a0_0 a0_1 a1_0 a1_1).bind fun bt292 => ((hushref1_Over.f kj4 a0_0 a0_1 a1_0 a1_1).bind fun bt295 => (if (!(bt292.1 == bt295.1) || (!(bt292.2.1 == bt295.2.1))) = true then (hushlaw1_RatioReckons.j1 kj4 true a0_0 a0_1 a1_0 a1_1) else (hushlaw1_RatioReckons.j1 kj4 (bt292.2.2 != bt295.2.2) a0_0 a0_1 a1_0 a1_1)))) = some r := by rw [if_neg (show ¬ (false = true) by decide)] at H; exact H
        clear H
        have H := H1
        clear H1
        replace H := Option.bind_eq_some_iff.mp H
        obtain ⟨⟨t292, t293, t294⟩, A400, H⟩ := H
        replace H : ((hushref1_Over.f kj4 a0_0 a0_1 a1_0 a1_1).bind fun bt295 => (if (!(t292 == bt295.1) || (!(t293 == bt295.2.1))) = true then (hushlaw1_RatioReckons.j1 kj4 true a0_0 a0_1 a1_0 a1_1) else (hushlaw1_RatioReckons.j1 kj4 (t294 != bt295.2.2) a0_0 a0_1 a1_0 a1_1))) = some r := H
        have A40 := Aside0.mk A400
        clear A400
        replace H := Option.bind_eq_some_iff.mp H
        obtain ⟨⟨t295, t296, t297⟩, A410, H⟩ := H
        replace H : (if (!(t292 == t295) || (!(t293 == t296))) = true then (hushlaw1_RatioReckons.j1 kj4 true a0_0 a0_1 a1_0 a1_1) else (hushlaw1_RatioReckons.j1 kj4 (t294 != t297) a0_0 a0_1 a1_0 a1_1)) = some r := H
        have A41 := Aside0.mk A410
        clear A410
        have HC42 := Aside0.mk H
        clear H
        have hnb43 := NB282_283.out
        have hnc43 := NB283_282.out
        have hnb44 := NB282_287.out
        have hnc44 := NB287_282.out
        have hnb45 := NB282_291.out
        have hnc45 := NB291_282.out
        have hcz46_0 : wc.cell? ⟨gb282, 0, none⟩ = some (.int .i64 a0_0) := (blk_cell BK282.out 0).trans rfl
        have hcz46_1 : wc.cell? ⟨gb282, 1, none⟩ = some (.int .i64 a0_1) := (blk_cell BK282.out 1).trans rfl
        have hfz46_0 := blk_frozen BK282.out 0
        have hfz46_1 := blk_frozen BK282.out 1
        have hnb47 := NB283_287.out
        have hnc47 := NB287_283.out
        have hnb48 := NB283_291.out
        have hnc48 := NB291_283.out
        have hcz49_0 : wc.cell? ⟨gb283, 0, none⟩ = some (.int .i64 a1_0) := (blk_cell BK283.out 0).trans rfl
        have hcz49_1 : wc.cell? ⟨gb283, 1, none⟩ = some (.int .i64 a1_1) := (blk_cell BK283.out 1).trans rfl
        have hfz49_0 := blk_frozen BK283.out 0
        have hfz49_1 := blk_frozen BK283.out 1
        go_upto_region 7 with (first | ((with_reducible refine gate_callee (f := 9) rfl ?_); refine goesL_ (some 34) rfl rfl Try.func9 (by kernel_rfl) rfl #[.agg #[.int .i64 a0_0, .int .i64 a0_1], .agg #[.int .i64 a1_0, .int .i64 a1_1]] rfl (by (try simp only [List.map_toArray, List.map_cons, List.map_nil]); first | done | rfl | (simp only [List.length_drop, List.length_take]; rfl)) ?_; (with_reducible refine (ratio_Over.calls kj4 a0_0 a0_1 a1_0 a1_1 t292 t293 t294 _ A40.out).mono ?_); rintro e w50 ⟨rfl, hb⟩; refine ⟨_, rfl, ?_⟩; have n0_ := Aside0.mk (blk_below (g := gb282) (o := .cells #[.int .i64 a0_0, .int .i64 a0_1] 23 (0, 0)) (by (with_reducible repeat (first | refine blk_drewN ?_ _ | refine blk_drew ?_ | refine blk_alloc ?_ _)); exact BK282.out) hb); have n1_ := Aside0.mk (blk_below (g := gb283) (o := .cells #[.int .i64 a1_0, .int .i64 a1_1] 23 (0, 0)) (by (with_reducible repeat (first | refine blk_drewN ?_ _ | refine blk_drew ?_ | refine blk_alloc ?_ _)); exact BK283.out) hb); have n2_ := Aside0.mk (blk_below (g := gb287) (o := .cells #[.int .i64 t284, .int .i64 t285] 23 (0, 0)) (by (with_reducible repeat (first | refine blk_drewN ?_ _ | refine blk_drew ?_ | refine blk_alloc ?_ _)); exact BK287.out) hb); have n3_ := Aside0.mk (blk_below (g := gb291) (o := .cells #[.int .i64 t288, .int .i64 t289] 23 (0, 0)) (by (with_reducible repeat (first | refine blk_drewN ?_ _ | refine blk_drew ?_ | refine blk_alloc ?_ _)); exact BK291.out) hb); have n4_ := Aside0.mk (below_step (by repeat (first | (with_reducible first | exact HB.out | apply below_alloc | apply pw_below_drewN | apply below_drew1 | refine below_set ?_ GE282.out | refine below_set ?_ GE283.out | refine below_set ?_ GE287.out | refine below_set ?_ GE291.out) | exact HB.out)) hb); clear BK282; clear BK283; clear BK287; clear BK291; clear HB; have BK282 := n0_; have BK283 := n1_; have BK287 := n2_; have BK291 := n3_; have HB := n4_; clear n0_ n1_ n2_ n3_ n4_; (try clear hb); (try clear hb2); (try clear hk); (try clear hi); have hnb51 := NB287_291.out; have hnc51 := NB291_287.out; have hcz52_0 : w50.cell? ⟨gb287, 0, none⟩ = some (.int .i64 t284) := (blk_cell BK287.out 0).trans rfl; have hcz52_1 : w50.cell? ⟨gb287, 1, none⟩ = some (.int .i64 t285) := (blk_cell BK287.out 1).trans rfl; have hfz52_0 := blk_frozen BK287.out 0; have hfz52_1 := blk_frozen BK287.out 1; have hcz53_0 : w50.cell? ⟨gb282, 0, none⟩ = some (.int .i64 a0_0) := (blk_cell BK282.out 0).trans rfl; have hcz53_1 : w50.cell? ⟨gb282, 1, none⟩ = some (.int .i64 a0_1) := (blk_cell BK282.out 1).trans rfl; have hfz53_0 := blk_frozen BK282.out 0; have hfz53_1 := blk_frozen BK282.out 1; have hcz54_0 : w50.cell? ⟨gb283, 0, none⟩ = some (.int .i64 a1_0) := (blk_cell BK283.out 0).trans rfl; have hcz54_1 : w50.cell? ⟨gb283, 1, none⟩ = some (.int .i64 a1_1) := (blk_cell BK283.out 1).trans rfl; have hfz54_0 := blk_frozen BK283.out 0; have hfz54_1 := blk_frozen BK283.out 1) | ((with_reducible refine gate_callee (f := 20) rfl ?_); refine goesL_ (some 40) rfl rfl Try.func20 (by kernel_rfl) rfl #[.agg #[.int .i64 a0_0, .int .i64 a0_1], .agg #[.int .i64 a1_0, .int .i64 a1_1]] rfl (by (try simp only [List.map_toArray, List.map_cons, List.map_nil]); first | done | rfl | (simp only [List.length_drop, List.length_take]; rfl)) ?_; (with_reducible refine (hushref1_Over.calls kj4 a0_0 a0_1 a1_0 a1_1 t295 t296 t297 _ A41.out).mono ?_); rintro e w55 ⟨rfl, hb⟩; refine ⟨_, rfl, ?_⟩; have n0_ := Aside0.mk (blk_below (g := gb282) (o := .cells #[.int .i64 a0_0, .int .i64 a0_1] 23 (0, 0)) (by (with_reducible repeat (first | refine blk_drewN ?_ _ | refine blk_drew ?_ | refine blk_alloc ?_ _)); refine blk_far ?_ NB282_287.out _; (with_reducible repeat (first | refine blk_drewN ?_ _ | refine blk_drew ?_ | refine blk_alloc ?_ _)); refine blk_far ?_ NB282_287.out _; (with_reducible repeat (first | refine blk_drewN ?_ _ | refine blk_drew ?_ | refine blk_alloc ?_ _)); exact BK282.out) hb); have n1_ := Aside0.mk (blk_below (g := gb283) (o := .cells #[.int .i64 a1_0, .int .i64 a1_1] 23 (0, 0)) (by (with_reducible repeat (first | refine blk_drewN ?_ _ | refine blk_drew ?_ | refine blk_alloc ?_ _)); refine blk_far ?_ NB283_287.out _; (with_reducible repeat (first | refine blk_drewN ?_ _ | refine blk_drew ?_ | refine blk_alloc ?_ _)); refine blk_far ?_ NB283_287.out _; (with_reducible repeat (first | refine blk_drewN ?_ _ | refine blk_drew ?_ | refine blk_alloc ?_ _)); exact BK283.out) hb); have n2_ := Aside0.mk (blk_below (g := gb287) (o := .cells #[.int .i64 t292, .int .i64 t293] 23 (0, 0)) (by (with_reducible repeat (first | refine blk_drewN ?_ _ | refine blk_drew ?_ | refine blk_alloc ?_ _)); refine blk_put (cs := #[.int .i64 t292, .int .i64 t285]) ?_ 1 _ rfl; (with_reducible repeat (first | refine blk_drewN ?_ _ | refine blk_drew ?_ | refine blk_alloc ?_ _)); refine blk_put (cs := #[.int .i64 t284, .int .i64 t285]) ?_ 0 _ rfl; (with_reducible repeat (first | refine blk_drewN ?_ _ | refine blk_drew ?_ | refine blk_alloc ?_ _)); exact BK287.out) hb); have n3_ := Aside0.mk (blk_below (g := gb291) (o := .cells #[.int .i64 t288, .int .i64 t289] 23 (0, 0)) (by (with_reducible repeat (first | refine blk_drewN ?_ _ | refine blk_drew ?_ | refine blk_alloc ?_ _)); refine blk_far ?_ NB291_287.out _; (with_reducible repeat (first | refine blk_drewN ?_ _ | refine blk_drew ?_ | refine blk_alloc ?_ _)); refine blk_far ?_ NB291_287.out _; (with_reducible repeat (first | refine blk_drewN ?_ _ | refine blk_drew ?_ | refine blk_alloc ?_ _)); exact BK291.out) hb); have n4_ := Aside0.mk (below_step (by repeat (first | (with_reducible first | exact HB.out | apply below_alloc | apply pw_below_drewN | apply below_drew1 | refine below_set ?_ GE282.out | refine below_set ?_ GE283.out | refine below_set ?_ GE287.out | refine below_set ?_ GE291.out) | exact HB.out)) hb); clear BK282; clear BK283; clear BK287; clear BK291; clear HB; have BK282 := n0_; have BK283 := n1_; have BK287 := n2_; have BK291 := n3_; have HB := n4_; clear n0_ n1_ n2_ n3_ n4_; (try clear hb); (try clear hb2); (try clear hk); (try clear hi); have hcz56_0 : w55.cell? ⟨gb291, 0, none⟩ = some (.int .i64 t288) := (blk_cell BK291.out 0).trans rfl; have hcz56_1 : w55.cell? ⟨gb291, 1, none⟩ = some (.int .i64 t289) := (blk_cell BK291.out 1).trans rfl; have hfz56_0 := blk_frozen BK291.out 0; have hfz56_1 := blk_frozen BK291.out 1))
        (try simp only [Act.put, List.setIfInBounds_toArray, List.set_cons_zero, List.set_cons_succ])
        go_cut [50] (fun v50 wc => ∃ (kq : Nat) (x50_41 : Bool), v50 = .bool x50_41 ∧ Aside0 (hushlaw1_RatioReckons.j1 kq x50_41 a0_0 a0_1 a1_0 a1_1 = some r) ∧ Aside0 (kq ≤ kj4) ∧ Aside0 (wc.heap[gb282]? = some (.cells #[.int .i64 a0_0, .int .i64 a0_1] 23 (0, 0))) ∧ Aside0 (wc.heap[gb283]? = some (.cells #[.int .i64 a1_0, .int .i64 a1_1] 23 (0, 0))) ∧ Aside0 (wc.heap[gb287]? = some (.cells #[.int .i64 t292, .int .i64 t293] 23 (0, 0))) ∧ Aside0 (wc.heap[gb291]? = some (.cells #[.int .i64 t295, .int .i64 t296] 23 (0, 0))) ∧ Aside0 (Below w.heap.size w wc))
        case first =>
          have H := HC42.out
          clear HC42
          by_cases c57 : (!(t292 == t295) || (!(t293 == t296))) = true
          · rw [if_pos c57] at H
            have c57b0 : (!(t292 == t295) || (!(t293 == t296))) = true := c57
            clear c57
            (first | rw [c57b0] | (simp only [i64_w, i32_w]; rw [c57b0]) | skip)
            have H' := Aside0.mk H
            clear H
            have hnb58 := NB287_282.out
            have hnc58 := NB282_287.out
            have hnb59 := NB287_283.out
            have hnc59 := NB283_287.out
            have hnb60 := NB287_291.out
            have hnc60 := NB291_287.out
            have hcz61_0 : w55.cell? ⟨gb287, 0, none⟩ = some (.int .i64 t292) := (blk_cell BK287.out 0).trans rfl
            have hcz61_1 : w55.cell? ⟨gb287, 1, none⟩ = some (.int .i64 t293) := (blk_cell BK287.out 1).trans rfl
            have hfz61_0 := blk_frozen BK287.out 0
            have hfz61_1 := blk_frozen BK287.out 1
            have hnb62 := NB291_282.out
            have hnc62 := NB282_291.out
            have hnb63 := NB291_283.out
            have hnc63 := NB283_291.out
            have hcz64_0 : w55.cell? ⟨gb291, 0, none⟩ = some (.int .i64 t288) := (blk_cell BK291.out 0).trans rfl
            have hcz64_1 : w55.cell? ⟨gb291, 1, none⟩ = some (.int .i64 t289) := (blk_cell BK291.out 1).trans rfl
            have hfz64_0 := blk_frozen BK291.out 0
            have hfz64_1 := blk_frozen BK291.out 1
            go_wp2
            go_meet
            case rel => exact ⟨_, (true), (by first | rfl | (simp; done) | (simp [*]; done)), H', ⟨by have := HJ4.out; first | omega | exact Nat.le_refl _⟩, ⟨by (with_reducible repeat (first | refine blk_drewN ?_ _ | refine blk_drew ?_ | refine blk_alloc ?_ _)); refine blk_far ?_ NB282_291.out _; (with_reducible repeat (first | refine blk_drewN ?_ _ | refine blk_drew ?_ | refine blk_alloc ?_ _)); refine blk_far ?_ NB282_291.out _; (with_reducible repeat (first | refine blk_drewN ?_ _ | refine blk_drew ?_ | refine blk_alloc ?_ _)); exact BK282.out⟩, ⟨by (with_reducible repeat (first | refine blk_drewN ?_ _ | refine blk_drew ?_ | refine blk_alloc ?_ _)); refine blk_far ?_ NB283_291.out _; (with_reducible repeat (first | refine blk_drewN ?_ _ | refine blk_drew ?_ | refine blk_alloc ?_ _)); refine blk_far ?_ NB283_291.out _; (with_reducible repeat (first | refine blk_drewN ?_ _ | refine blk_drew ?_ | refine blk_alloc ?_ _)); exact BK283.out⟩, ⟨by (with_reducible repeat (first | refine blk_drewN ?_ _ | refine blk_drew ?_ | refine blk_alloc ?_ _)); refine blk_far ?_ NB287_291.out _; (with_reducible repeat (first | refine blk_drewN ?_ _ | refine blk_drew ?_ | refine blk_alloc ?_ _)); refine blk_far ?_ NB287_291.out _; (with_reducible repeat (first | refine blk_drewN ?_ _ | refine blk_drew ?_ | refine blk_alloc ?_ _)); exact BK287.out⟩, ⟨by (with_reducible repeat (first | refine blk_drewN ?_ _ | refine blk_drew ?_ | refine blk_alloc ?_ _)); refine blk_put (cs := #[.int .i64 t295, .int .i64 t289]) ?_ 1 _ rfl; (with_reducible repeat (first | refine blk_drewN ?_ _ | refine blk_drew ?_ | refine blk_alloc ?_ _)); refine blk_put (cs := #[.int .i64 t288, .int .i64 t289]) ?_ 0 _ rfl; (with_reducible repeat (first | refine blk_drewN ?_ _ | refine blk_drew ?_ | refine blk_alloc ?_ _)); exact BK291.out⟩, ⟨by repeat (first | (with_reducible first | exact HB.out | apply below_alloc | apply pw_below_drewN | apply below_drew1 | refine below_set ?_ GE282.out | refine below_set ?_ GE283.out | refine below_set ?_ GE287.out | refine below_set ?_ GE291.out) | exact HB.out)⟩⟩
          · rw [if_neg c57] at H
            have c57b0 : (!(t292 == t295) || (!(t293 == t296))) = false := by simpa using c57
            clear c57
            (first | rw [c57b0] | (simp only [i64_w, i32_w]; rw [c57b0]) | skip)
            have H' := Aside0.mk H
            clear H
            have hnb65 := NB287_282.out
            have hnc65 := NB282_287.out
            have hnb66 := NB287_283.out
            have hnc66 := NB283_287.out
            have hnb67 := NB287_291.out
            have hnc67 := NB291_287.out
            have hcz68_0 : w55.cell? ⟨gb287, 0, none⟩ = some (.int .i64 t292) := (blk_cell BK287.out 0).trans rfl
            have hcz68_1 : w55.cell? ⟨gb287, 1, none⟩ = some (.int .i64 t293) := (blk_cell BK287.out 1).trans rfl
            have hfz68_0 := blk_frozen BK287.out 0
            have hfz68_1 := blk_frozen BK287.out 1
            have hnb69 := NB291_282.out
            have hnc69 := NB282_291.out
            have hnb70 := NB291_283.out
            have hnc70 := NB283_291.out
            have hcz71_0 : w55.cell? ⟨gb291, 0, none⟩ = some (.int .i64 t288) := (blk_cell BK291.out 0).trans rfl
            have hcz71_1 : w55.cell? ⟨gb291, 1, none⟩ = some (.int .i64 t289) := (blk_cell BK291.out 1).trans rfl
            have hfz71_0 := blk_frozen BK291.out 0
            have hfz71_1 := blk_frozen BK291.out 1
            go_wp2
            go_meet
            case rel => exact ⟨_, ((t294 != t297)), (by first | rfl | (simp; done) | (simp [*]; done)), H', ⟨by have := HJ4.out; first | omega | exact Nat.le_refl _⟩, ⟨by (with_reducible repeat (first | refine blk_drewN ?_ _ | refine blk_drew ?_ | refine blk_alloc ?_ _)); refine blk_far ?_ NB282_291.out _; (with_reducible repeat (first | refine blk_drewN ?_ _ | refine blk_drew ?_ | refine blk_alloc ?_ _)); refine blk_far ?_ NB282_291.out _; (with_reducible repeat (first | refine blk_drewN ?_ _ | refine blk_drew ?_ | refine blk_alloc ?_ _)); exact BK282.out⟩, ⟨by (with_reducible repeat (first | refine blk_drewN ?_ _ | refine blk_drew ?_ | refine blk_alloc ?_ _)); refine blk_far ?_ NB283_291.out _; (with_reducible repeat (first | refine blk_drewN ?_ _ | refine blk_drew ?_ | refine blk_alloc ?_ _)); refine blk_far ?_ NB283_291.out _; (with_reducible repeat (first | refine blk_drewN ?_ _ | refine blk_drew ?_ | refine blk_alloc ?_ _)); exact BK283.out⟩, ⟨by (with_reducible repeat (first | refine blk_drewN ?_ _ | refine blk_drew ?_ | refine blk_alloc ?_ _)); refine blk_far ?_ NB287_291.out _; (with_reducible repeat (first | refine blk_drewN ?_ _ | refine blk_drew ?_ | refine blk_alloc ?_ _)); refine blk_far ?_ NB287_291.out _; (with_reducible repeat (first | refine blk_drewN ?_ _ | refine blk_drew ?_ | refine blk_alloc ?_ _)); exact BK287.out⟩, ⟨by (with_reducible repeat (first | refine blk_drewN ?_ _ | refine blk_drew ?_ | refine blk_alloc ?_ _)); refine blk_put (cs := #[.int .i64 t295, .int .i64 t289]) ?_ 1 _ rfl; (with_reducible repeat (first | refine blk_drewN ?_ _ | refine blk_drew ?_ | refine blk_alloc ?_ _)); refine blk_put (cs := #[.int .i64 t288, .int .i64 t289]) ?_ 0 _ rfl; (with_reducible repeat (first | refine blk_drewN ?_ _ | refine blk_drew ?_ | refine blk_alloc ?_ _)); exact BK291.out⟩, ⟨by repeat (first | (with_reducible first | exact HB.out | apply below_alloc | apply pw_below_drewN | apply below_drew1 | refine below_set ?_ GE282.out | refine below_set ?_ GE283.out | refine below_set ?_ GE287.out | refine below_set ?_ GE291.out) | exact HB.out)⟩⟩
        case rest =>
          clear HC42
          try clear c1
          try clear c2
          try clear p2
          try clear c3
          try clear c4
          try clear c5
          try clear c6
          try clear c7
          try clear c8
          try clear c9
          try clear c13
          try clear c14
          try clear c18
          try clear c19
          try clear c20
          try clear c21
          try clear c22
          try clear c24
          try clear c24b0
          try clear c25
          try clear c26
          try clear c27
          try clear c29
          try clear c30
          try clear c32
          try clear c33
          try clear c34
          try clear c36
          try clear c37
          try clear c39
          try clear c43
          try clear c44
          try clear c45
          try clear c47
          try clear c48
          try clear c51
          try clear c57
          try clear c57b0
          try clear c58
          try clear c59
          try clear c60
          try clear c62
          try clear c63
          try clear c65
          try clear c66
          try clear c67
          try clear c69
          try clear c70
          try clear hcz10_0
          try clear hcz10_1
          try clear hcz15_0
          try clear hcz15_1
          try clear hcz16_0
          try clear hcz16_1
          try clear hcz17_0
          try clear hcz17_1
          try clear hcz23_0
          try clear hcz23_1
          try clear hcz28_0
          try clear hcz28_1
          try clear hcz31_0
          try clear hcz31_1
          try clear hcz35_0
          try clear hcz35_1
          try clear hcz38_0
          try clear hcz38_1
          try clear hcz46_0
          try clear hcz46_1
          try clear hcz49_0
          try clear hcz49_1
          try clear hcz52_0
          try clear hcz52_1
          try clear hcz53_0
          try clear hcz53_1
          try clear hcz54_0
          try clear hcz54_1
          try clear hcz56_0
          try clear hcz56_1
          try clear hcz61_0
          try clear hcz61_1
          try clear hcz64_0
          try clear hcz64_1
          try clear hcz68_0
          try clear hcz68_1
          try clear hcz71_0
          try clear hcz71_1
          try clear hcz9_0
          try clear hcz9_1
          try clear hfz10_0
          try clear hfz10_1
          try clear hfz15_0
          try clear hfz15_1
          try clear hfz16_0
          try clear hfz16_1
          try clear hfz17_0
          try clear hfz17_1
          try clear hfz23_0
          try clear hfz23_1
          try clear hfz28_0
          try clear hfz28_1
          try clear hfz31_0
          try clear hfz31_1
          try clear hfz35_0
          try clear hfz35_1
          try clear hfz38_0
          try clear hfz38_1
          try clear hfz46_0
          try clear hfz46_1
          try clear hfz49_0
          try clear hfz49_1
          try clear hfz52_0
          try clear hfz52_1
          try clear hfz53_0
          try clear hfz53_1
          try clear hfz54_0
          try clear hfz54_1
          try clear hfz56_0
          try clear hfz56_1
          try clear hfz61_0
          try clear hfz61_1
          try clear hfz64_0
          try clear hfz64_1
          try clear hfz68_0
          try clear hfz68_1
          try clear hfz71_0
          try clear hfz71_1
          try clear hfz9_0
          try clear hfz9_1
          try clear p2
          obtain ⟨kq, x50_41, rfl, HA, HJ41, BK282, BK283, BK287, BK291, HB⟩ := hcut
          cases kq with
          | zero => exact absurd HA.out (by simp [hushlaw1_RatioReckons.j1])
          | succ kj41 =>
            have H := HA.out
            clear HA
            simp only [hushlaw1_RatioReckons.j1] at H
            by_cases c72 : x50_41 = true
            · subst c72
              have H1 : (some false) = some r := by rw [if_pos rfl] at H; exact H
              clear H
              have H := H1
              clear H1
              obtain rfl := Option.some.inj H
              go_wp2
              go_ret
              exact ⟨by first | rfl | (simp [errW_none, errW_some] <;> rfl) | (simp [*, errW_none, errW_some] <;> rfl), by repeat (first | (with_reducible first | exact HB.out | apply below_alloc | apply pw_below_drewN | apply below_drew1 | refine below_set ?_ GE282.out | refine below_set ?_ GE283.out | refine below_set ?_ GE287.out | refine below_set ?_ GE291.out) | exact HB.out)⟩
            · replace c72 := Bool.eq_false_iff.mpr c72
              subst c72
              have H1 : ((ratio_Plus.f kj41 a0_0 a0_1 a1_0 a1_1).bind fun bt298 => ((hushref1_Plus.f kj41 a0_0 a0_1 a1_0 a1_1).bind fun bt301 => (if (!(bt298.1 == bt301.1) || (!(bt298.2.1 == bt301.2.1))) = true then (hushlaw1_RatioReckons.j2 kj41 true a0_0 a0_1 a1_0 a1_1) else (hushlaw1_RatioReckons.j2 kj41 (bt298.2.2 != bt301.2.2) a0_0 a0_1 a1_0 a1_1)))) = some r := by rw [if_neg (show ¬ (false = true) by decide)] at H; exact H
              clear H
              have H := H1
              clear H1
              replace H := Option.bind_eq_some_iff.mp H
              obtain ⟨⟨t298, t299, t300⟩, A730, H⟩ := H
              replace H : ((hushref1_Plus.f kj41 a0_0 a0_1 a1_0 a1_1).bind fun bt301 => (if (!(t298 == bt301.1) || (!(t299 == bt301.2.1))) = true then (hushlaw1_RatioReckons.j2 kj41 true a0_0 a0_1 a1_0 a1_1) else (hushlaw1_RatioReckons.j2 kj41 (t300 != bt301.2.2) a0_0 a0_1 a1_0 a1_1))) = some r := H
              have A73 := Aside0.mk A730
              clear A730
              replace H := Option.bind_eq_some_iff.mp H
              obtain ⟨⟨t301, t302, t303⟩, A740, H⟩ := H
              replace H : (if (!(t298 == t301) || (!(t299 == t302))) = true then (hushlaw1_RatioReckons.j2 kj41 true a0_0 a0_1 a1_0 a1_1) else (hushlaw1_RatioReckons.j2 kj41 (t300 != t303) a0_0 a0_1 a1_0 a1_1)) = some r := H
              have A74 := Aside0.mk A740
              clear A740
              have HC75 := Aside0.mk H
              clear H
              have hnb76 := NB282_283.out
              have hnc76 := NB283_282.out
              have hnb77 := NB282_287.out
              have hnc77 := NB287_282.out
              have hnb78 := NB282_291.out
              have hnc78 := NB291_282.out
              have hcz79_0 : wc.cell? ⟨gb282, 0, none⟩ = some (.int .i64 a0_0) := (blk_cell BK282.out 0).trans rfl
              have hcz79_1 : wc.cell? ⟨gb282, 1, none⟩ = some (.int .i64 a0_1) := (blk_cell BK282.out 1).trans rfl
              have hfz79_0 := blk_frozen BK282.out 0
              have hfz79_1 := blk_frozen BK282.out 1
              have hnb80 := NB283_287.out
              have hnc80 := NB287_283.out
              have hnb81 := NB283_291.out
              have hnc81 := NB291_283.out
              have hcz82_0 : wc.cell? ⟨gb283, 0, none⟩ = some (.int .i64 a1_0) := (blk_cell BK283.out 0).trans rfl
              have hcz82_1 : wc.cell? ⟨gb283, 1, none⟩ = some (.int .i64 a1_1) := (blk_cell BK283.out 1).trans rfl
              have hfz82_0 := blk_frozen BK283.out 0
              have hfz82_1 := blk_frozen BK283.out 1
              go_upto_region 11 with (first | ((with_reducible refine gate_callee (f := 21) rfl ?_); refine goesL_ (some 54) rfl rfl Try.func21 (by kernel_rfl) rfl #[.agg #[.int .i64 a0_0, .int .i64 a0_1], .agg #[.int .i64 a1_0, .int .i64 a1_1]] rfl (by (try simp only [List.map_toArray, List.map_cons, List.map_nil]); first | done | rfl | (simp only [List.length_drop, List.length_take]; rfl)) ?_; (with_reducible refine (ratio_Plus.calls kj41 a0_0 a0_1 a1_0 a1_1 t298 t299 t300 _ A73.out).mono ?_); rintro e w83 ⟨rfl, hb⟩; refine ⟨_, rfl, ?_⟩; have n0_ := Aside0.mk (blk_below (g := gb282) (o := .cells #[.int .i64 a0_0, .int .i64 a0_1] 23 (0, 0)) (by (with_reducible repeat (first | refine blk_drewN ?_ _ | refine blk_drew ?_ | refine blk_alloc ?_ _)); exact BK282.out) hb); have n1_ := Aside0.mk (blk_below (g := gb283) (o := .cells #[.int .i64 a1_0, .int .i64 a1_1] 23 (0, 0)) (by (with_reducible repeat (first | refine blk_drewN ?_ _ | refine blk_drew ?_ | refine blk_alloc ?_ _)); exact BK283.out) hb); have n2_ := Aside0.mk (blk_below (g := gb287) (o := .cells #[.int .i64 t292, .int .i64 t293] 23 (0, 0)) (by (with_reducible repeat (first | refine blk_drewN ?_ _ | refine blk_drew ?_ | refine blk_alloc ?_ _)); exact BK287.out) hb); have n3_ := Aside0.mk (blk_below (g := gb291) (o := .cells #[.int .i64 t295, .int .i64 t296] 23 (0, 0)) (by (with_reducible repeat (first | refine blk_drewN ?_ _ | refine blk_drew ?_ | refine blk_alloc ?_ _)); exact BK291.out) hb); have n4_ := Aside0.mk (below_step (by repeat (first | (with_reducible first | exact HB.out | apply below_alloc | apply pw_below_drewN | apply below_drew1 | refine below_set ?_ GE282.out | refine below_set ?_ GE283.out | refine below_set ?_ GE287.out | refine below_set ?_ GE291.out) | exact HB.out)) hb); clear BK282; clear BK283; clear BK287; clear BK291; clear HB; have BK282 := n0_; have BK283 := n1_; have BK287 := n2_; have BK291 := n3_; have HB := n4_; clear n0_ n1_ n2_ n3_ n4_; (try clear hb); (try clear hb2); (try clear hk); (try clear hi); have hnb84 := NB287_291.out; have hnc84 := NB291_287.out; have hcz85_0 : w83.cell? ⟨gb287, 0, none⟩ = some (.int .i64 t292) := (blk_cell BK287.out 0).trans rfl; have hcz85_1 : w83.cell? ⟨gb287, 1, none⟩ = some (.int .i64 t293) := (blk_cell BK287.out 1).trans rfl; have hfz85_0 := blk_frozen BK287.out 0; have hfz85_1 := blk_frozen BK287.out 1; have hcz86_0 : w83.cell? ⟨gb282, 0, none⟩ = some (.int .i64 a0_0) := (blk_cell BK282.out 0).trans rfl; have hcz86_1 : w83.cell? ⟨gb282, 1, none⟩ = some (.int .i64 a0_1) := (blk_cell BK282.out 1).trans rfl; have hfz86_0 := blk_frozen BK282.out 0; have hfz86_1 := blk_frozen BK282.out 1; have hcz87_0 : w83.cell? ⟨gb283, 0, none⟩ = some (.int .i64 a1_0) := (blk_cell BK283.out 0).trans rfl; have hcz87_1 : w83.cell? ⟨gb283, 1, none⟩ = some (.int .i64 a1_1) := (blk_cell BK283.out 1).trans rfl; have hfz87_0 := blk_frozen BK283.out 0; have hfz87_1 := blk_frozen BK283.out 1) | ((with_reducible refine gate_callee (f := 22) rfl ?_); refine goesL_ (some 60) rfl rfl Try.func22 (by kernel_rfl) rfl #[.agg #[.int .i64 a0_0, .int .i64 a0_1], .agg #[.int .i64 a1_0, .int .i64 a1_1]] rfl (by (try simp only [List.map_toArray, List.map_cons, List.map_nil]); first | done | rfl | (simp only [List.length_drop, List.length_take]; rfl)) ?_; (with_reducible refine (hushref1_Plus.calls kj41 a0_0 a0_1 a1_0 a1_1 t301 t302 t303 _ A74.out).mono ?_); rintro e w88 ⟨rfl, hb⟩; refine ⟨_, rfl, ?_⟩; have n0_ := Aside0.mk (blk_below (g := gb282) (o := .cells #[.int .i64 a0_0, .int .i64 a0_1] 23 (0, 0)) (by (with_reducible repeat (first | refine blk_drewN ?_ _ | refine blk_drew ?_ | refine blk_alloc ?_ _)); refine blk_far ?_ NB282_287.out _; (with_reducible repeat (first | refine blk_drewN ?_ _ | refine blk_drew ?_ | refine blk_alloc ?_ _)); refine blk_far ?_ NB282_287.out _; (with_reducible repeat (first | refine blk_drewN ?_ _ | refine blk_drew ?_ | refine blk_alloc ?_ _)); exact BK282.out) hb); have n1_ := Aside0.mk (blk_below (g := gb283) (o := .cells #[.int .i64 a1_0, .int .i64 a1_1] 23 (0, 0)) (by (with_reducible repeat (first | refine blk_drewN ?_ _ | refine blk_drew ?_ | refine blk_alloc ?_ _)); refine blk_far ?_ NB283_287.out _; (with_reducible repeat (first | refine blk_drewN ?_ _ | refine blk_drew ?_ | refine blk_alloc ?_ _)); refine blk_far ?_ NB283_287.out _; (with_reducible repeat (first | refine blk_drewN ?_ _ | refine blk_drew ?_ | refine blk_alloc ?_ _)); exact BK283.out) hb); have n2_ := Aside0.mk (blk_below (g := gb287) (o := .cells #[.int .i64 t298, .int .i64 t299] 23 (0, 0)) (by (with_reducible repeat (first | refine blk_drewN ?_ _ | refine blk_drew ?_ | refine blk_alloc ?_ _)); refine blk_put (cs := #[.int .i64 t298, .int .i64 t293]) ?_ 1 _ rfl; (with_reducible repeat (first | refine blk_drewN ?_ _ | refine blk_drew ?_ | refine blk_alloc ?_ _)); refine blk_put (cs := #[.int .i64 t292, .int .i64 t293]) ?_ 0 _ rfl; (with_reducible repeat (first | refine blk_drewN ?_ _ | refine blk_drew ?_ | refine blk_alloc ?_ _)); exact BK287.out) hb); have n3_ := Aside0.mk (blk_below (g := gb291) (o := .cells #[.int .i64 t295, .int .i64 t296] 23 (0, 0)) (by (with_reducible repeat (first | refine blk_drewN ?_ _ | refine blk_drew ?_ | refine blk_alloc ?_ _)); refine blk_far ?_ NB291_287.out _; (with_reducible repeat (first | refine blk_drewN ?_ _ | refine blk_drew ?_ | refine blk_alloc ?_ _)); refine blk_far ?_ NB291_287.out _; (with_reducible repeat (first | refine blk_drewN ?_ _ | refine blk_drew ?_ | refine blk_alloc ?_ _)); exact BK291.out) hb); have n4_ := Aside0.mk (below_step (by repeat (first | (with_reducible first | exact HB.out | apply below_alloc | apply pw_below_drewN | apply below_drew1 | refine below_set ?_ GE282.out | refine below_set ?_ GE283.out | refine below_set ?_ GE287.out | refine below_set ?_ GE291.out) | exact HB.out)) hb); clear BK282; clear BK283; clear BK287; clear BK291; clear HB; have BK282 := n0_; have BK283 := n1_; have BK287 := n2_; have BK291 := n3_; have HB := n4_; clear n0_ n1_ n2_ n3_ n4_; (try clear hb); (try clear hb2); (try clear hk); (try clear hi); have hcz89_0 : w88.cell? ⟨gb291, 0, none⟩ = some (.int .i64 t295) := (blk_cell BK291.out 0).trans rfl; have hcz89_1 : w88.cell? ⟨gb291, 1, none⟩ = some (.int .i64 t296) := (blk_cell BK291.out 1).trans rfl; have hfz89_0 := blk_frozen BK291.out 0; have hfz89_1 := blk_frozen BK291.out 1))
              (try simp only [Act.put, List.setIfInBounds_toArray, List.set_cons_zero, List.set_cons_succ])
              go_cut [70] (fun v70 wc => ∃ (kq : Nat) (x70_74 : Bool), v70 = .bool x70_74 ∧ Aside0 (hushlaw1_RatioReckons.j2 kq x70_74 a0_0 a0_1 a1_0 a1_1 = some r) ∧ Aside0 (kq ≤ kj41) ∧ Aside0 (wc.heap[gb282]? = some (.cells #[.int .i64 a0_0, .int .i64 a0_1] 23 (0, 0))) ∧ Aside0 (wc.heap[gb283]? = some (.cells #[.int .i64 a1_0, .int .i64 a1_1] 23 (0, 0))) ∧ Aside0 (wc.heap[gb287]? = some (.cells #[.int .i64 t298, .int .i64 t299] 23 (0, 0))) ∧ Aside0 (wc.heap[gb291]? = some (.cells #[.int .i64 t301, .int .i64 t302] 23 (0, 0))) ∧ Aside0 (Below w.heap.size w wc))
              case first =>
                have H := HC75.out
                clear HC75
                by_cases c90 : (!(t298 == t301) || (!(t299 == t302))) = true
                · rw [if_pos c90] at H
                  have c90b0 : (!(t298 == t301) || (!(t299 == t302))) = true := c90
                  clear c90
                  (first | rw [c90b0] | (simp only [i64_w, i32_w]; rw [c90b0]) | skip)
                  have H' := Aside0.mk H
                  clear H
                  have hnb91 := NB287_282.out
                  have hnc91 := NB282_287.out
                  have hnb92 := NB287_283.out
                  have hnc92 := NB283_287.out
                  have hnb93 := NB287_291.out
                  have hnc93 := NB291_287.out
                  have hcz94_0 : w88.cell? ⟨gb287, 0, none⟩ = some (.int .i64 t298) := (blk_cell BK287.out 0).trans rfl
                  have hcz94_1 : w88.cell? ⟨gb287, 1, none⟩ = some (.int .i64 t299) := (blk_cell BK287.out 1).trans rfl
                  have hfz94_0 := blk_frozen BK287.out 0
                  have hfz94_1 := blk_frozen BK287.out 1
                  have hnb95 := NB291_282.out
                  have hnc95 := NB282_291.out
                  have hnb96 := NB291_283.out
                  have hnc96 := NB283_291.out
                  have hcz97_0 : w88.cell? ⟨gb291, 0, none⟩ = some (.int .i64 t295) := (blk_cell BK291.out 0).trans rfl
                  have hcz97_1 : w88.cell? ⟨gb291, 1, none⟩ = some (.int .i64 t296) := (blk_cell BK291.out 1).trans rfl
                  have hfz97_0 := blk_frozen BK291.out 0
                  have hfz97_1 := blk_frozen BK291.out 1
                  go_wp2
                  go_meet
                  case rel => exact ⟨_, (true), (by first | rfl | (simp; done) | (simp [*]; done)), H', ⟨by have := HJ4.out; have := HJ41.out; first | omega | exact Nat.le_refl _⟩, ⟨by (with_reducible repeat (first | refine blk_drewN ?_ _ | refine blk_drew ?_ | refine blk_alloc ?_ _)); refine blk_far ?_ NB282_291.out _; (with_reducible repeat (first | refine blk_drewN ?_ _ | refine blk_drew ?_ | refine blk_alloc ?_ _)); refine blk_far ?_ NB282_291.out _; (with_reducible repeat (first | refine blk_drewN ?_ _ | refine blk_drew ?_ | refine blk_alloc ?_ _)); exact BK282.out⟩, ⟨by (with_reducible repeat (first | refine blk_drewN ?_ _ | refine blk_drew ?_ | refine blk_alloc ?_ _)); refine blk_far ?_ NB283_291.out _; (with_reducible repeat (first | refine blk_drewN ?_ _ | refine blk_drew ?_ | refine blk_alloc ?_ _)); refine blk_far ?_ NB283_291.out _; (with_reducible repeat (first | refine blk_drewN ?_ _ | refine blk_drew ?_ | refine blk_alloc ?_ _)); exact BK283.out⟩, ⟨by (with_reducible repeat (first | refine blk_drewN ?_ _ | refine blk_drew ?_ | refine blk_alloc ?_ _)); refine blk_far ?_ NB287_291.out _; (with_reducible repeat (first | refine blk_drewN ?_ _ | refine blk_drew ?_ | refine blk_alloc ?_ _)); refine blk_far ?_ NB287_291.out _; (with_reducible repeat (first | refine blk_drewN ?_ _ | refine blk_drew ?_ | refine blk_alloc ?_ _)); exact BK287.out⟩, ⟨by (with_reducible repeat (first | refine blk_drewN ?_ _ | refine blk_drew ?_ | refine blk_alloc ?_ _)); refine blk_put (cs := #[.int .i64 t301, .int .i64 t296]) ?_ 1 _ rfl; (with_reducible repeat (first | refine blk_drewN ?_ _ | refine blk_drew ?_ | refine blk_alloc ?_ _)); refine blk_put (cs := #[.int .i64 t295, .int .i64 t296]) ?_ 0 _ rfl; (with_reducible repeat (first | refine blk_drewN ?_ _ | refine blk_drew ?_ | refine blk_alloc ?_ _)); exact BK291.out⟩, ⟨by repeat (first | (with_reducible first | exact HB.out | apply below_alloc | apply pw_below_drewN | apply below_drew1 | refine below_set ?_ GE282.out | refine below_set ?_ GE283.out | refine below_set ?_ GE287.out | refine below_set ?_ GE291.out) | exact HB.out)⟩⟩
                · rw [if_neg c90] at H
                  have c90b0 : (!(t298 == t301) || (!(t299 == t302))) = false := by simpa using c90
                  clear c90
                  (first | rw [c90b0] | (simp only [i64_w, i32_w]; rw [c90b0]) | skip)
                  have H' := Aside0.mk H
                  clear H
                  have hnb98 := NB287_282.out
                  have hnc98 := NB282_287.out
                  have hnb99 := NB287_283.out
                  have hnc99 := NB283_287.out
                  have hnb100 := NB287_291.out
                  have hnc100 := NB291_287.out
                  have hcz101_0 : w88.cell? ⟨gb287, 0, none⟩ = some (.int .i64 t298) := (blk_cell BK287.out 0).trans rfl
                  have hcz101_1 : w88.cell? ⟨gb287, 1, none⟩ = some (.int .i64 t299) := (blk_cell BK287.out 1).trans rfl
                  have hfz101_0 := blk_frozen BK287.out 0
                  have hfz101_1 := blk_frozen BK287.out 1
                  have hnb102 := NB291_282.out
                  have hnc102 := NB282_291.out
                  have hnb103 := NB291_283.out
                  have hnc103 := NB283_291.out
                  have hcz104_0 : w88.cell? ⟨gb291, 0, none⟩ = some (.int .i64 t295) := (blk_cell BK291.out 0).trans rfl
                  have hcz104_1 : w88.cell? ⟨gb291, 1, none⟩ = some (.int .i64 t296) := (blk_cell BK291.out 1).trans rfl
                  have hfz104_0 := blk_frozen BK291.out 0
                  have hfz104_1 := blk_frozen BK291.out 1
                  go_wp2
                  go_meet
                  case rel => exact ⟨_, ((t300 != t303)), (by first | rfl | (simp; done) | (simp [*]; done)), H', ⟨by have := HJ4.out; have := HJ41.out; first | omega | exact Nat.le_refl _⟩, ⟨by (with_reducible repeat (first | refine blk_drewN ?_ _ | refine blk_drew ?_ | refine blk_alloc ?_ _)); refine blk_far ?_ NB282_291.out _; (with_reducible repeat (first | refine blk_drewN ?_ _ | refine blk_drew ?_ | refine blk_alloc ?_ _)); refine blk_far ?_ NB282_291.out _; (with_reducible repeat (first | refine blk_drewN ?_ _ | refine blk_drew ?_ | refine blk_alloc ?_ _)); exact BK282.out⟩, ⟨by (with_reducible repeat (first | refine blk_drewN ?_ _ | refine blk_drew ?_ | refine blk_alloc ?_ _)); refine blk_far ?_ NB283_291.out _; (with_reducible repeat (first | refine blk_drewN ?_ _ | refine blk_drew ?_ | refine blk_alloc ?_ _)); refine blk_far ?_ NB283_291.out _; (with_reducible repeat (first | refine blk_drewN ?_ _ | refine blk_drew ?_ | refine blk_alloc ?_ _)); exact BK283.out⟩, ⟨by (with_reducible repeat (first | refine blk_drewN ?_ _ | refine blk_drew ?_ | refine blk_alloc ?_ _)); refine blk_far ?_ NB287_291.out _; (with_reducible repeat (first | refine blk_drewN ?_ _ | refine blk_drew ?_ | refine blk_alloc ?_ _)); refine blk_far ?_ NB287_291.out _; (with_reducible repeat (first | refine blk_drewN ?_ _ | refine blk_drew ?_ | refine blk_alloc ?_ _)); exact BK287.out⟩, ⟨by (with_reducible repeat (first | refine blk_drewN ?_ _ | refine blk_drew ?_ | refine blk_alloc ?_ _)); refine blk_put (cs := #[.int .i64 t301, .int .i64 t296]) ?_ 1 _ rfl; (with_reducible repeat (first | refine blk_drewN ?_ _ | refine blk_drew ?_ | refine blk_alloc ?_ _)); refine blk_put (cs := #[.int .i64 t295, .int .i64 t296]) ?_ 0 _ rfl; (with_reducible repeat (first | refine blk_drewN ?_ _ | refine blk_drew ?_ | refine blk_alloc ?_ _)); exact BK291.out⟩, ⟨by repeat (first | (with_reducible first | exact HB.out | apply below_alloc | apply pw_below_drewN | apply below_drew1 | refine below_set ?_ GE282.out | refine below_set ?_ GE283.out | refine below_set ?_ GE287.out | refine below_set ?_ GE291.out) | exact HB.out)⟩⟩
              case rest =>
                clear HC75
                try clear c1
                try clear c2
                try clear p2
                try clear c3
                try clear c4
                try clear c5
                try clear c6
                try clear c7
                try clear c8
                try clear c9
                try clear c10
                try clear c13
                try clear c14
                try clear c18
                try clear c19
                try clear c20
                try clear c21
                try clear c22
                try clear c24
                try clear c24b0
                try clear c25
                try clear c26
                try clear c27
                try clear c29
                try clear c30
                try clear c32
                try clear c33
                try clear c34
                try clear c36
                try clear c37
                try clear c39
                try clear c43
                try clear c44
                try clear c45
                try clear c47
                try clear c48
                try clear c51
                try clear c57
                try clear c57b0
                try clear c58
                try clear c59
                try clear c60
                try clear c62
                try clear c63
                try clear c65
                try clear c66
                try clear c67
                try clear c69
                try clear c70
                try clear c72
                try clear c76
                try clear c77
                try clear c78
                try clear c80
                try clear c81
                try clear c84
                try clear c90
                try clear c90b0
                try clear c91
                try clear c92
                try clear c93
                try clear c95
                try clear c96
                try clear c98
                try clear c99
                try clear c100
                try clear c102
                try clear c103
                try clear hcz101_0
                try clear hcz101_1
                try clear hcz104_0
                try clear hcz104_1
                try clear hcz10_0
                try clear hcz10_1
                try clear hcz15_0
                try clear hcz15_1
                try clear hcz16_0
                try clear hcz16_1
                try clear hcz17_0
                try clear hcz17_1
                try clear hcz23_0
                try clear hcz23_1
                try clear hcz28_0
                try clear hcz28_1
                try clear hcz31_0
                try clear hcz31_1
                try clear hcz35_0
                try clear hcz35_1
                try clear hcz38_0
                try clear hcz38_1
                try clear hcz46_0
                try clear hcz46_1
                try clear hcz49_0
                try clear hcz49_1
                try clear hcz52_0
                try clear hcz52_1
                try clear hcz53_0
                try clear hcz53_1
                try clear hcz54_0
                try clear hcz54_1
                try clear hcz56_0
                try clear hcz56_1
                try clear hcz61_0
                try clear hcz61_1
                try clear hcz64_0
                try clear hcz64_1
                try clear hcz68_0
                try clear hcz68_1
                try clear hcz71_0
                try clear hcz71_1
                try clear hcz79_0
                try clear hcz79_1
                try clear hcz82_0
                try clear hcz82_1
                try clear hcz85_0
                try clear hcz85_1
                try clear hcz86_0
                try clear hcz86_1
                try clear hcz87_0
                try clear hcz87_1
                try clear hcz89_0
                try clear hcz89_1
                try clear hcz94_0
                try clear hcz94_1
                try clear hcz97_0
                try clear hcz97_1
                try clear hcz9_0
                try clear hcz9_1
                try clear hfz101_0
                try clear hfz101_1
                try clear hfz104_0
                try clear hfz104_1
                try clear hfz10_0
                try clear hfz10_1
                try clear hfz15_0
                try clear hfz15_1
                try clear hfz16_0
                try clear hfz16_1
                try clear hfz17_0
                try clear hfz17_1
                try clear hfz23_0
                try clear hfz23_1
                try clear hfz28_0
                try clear hfz28_1
                try clear hfz31_0
                try clear hfz31_1
                try clear hfz35_0
                try clear hfz35_1
                try clear hfz38_0
                try clear hfz38_1
                try clear hfz46_0
                try clear hfz46_1
                try clear hfz49_0
                try clear hfz49_1
                try clear hfz52_0
                try clear hfz52_1
                try clear hfz53_0
                try clear hfz53_1
                try clear hfz54_0
                try clear hfz54_1
                try clear hfz56_0
                try clear hfz56_1
                try clear hfz61_0
                try clear hfz61_1
                try clear hfz64_0
                try clear hfz64_1
                try clear hfz68_0
                try clear hfz68_1
                try clear hfz71_0
                try clear hfz71_1
                try clear hfz79_0
                try clear hfz79_1
                try clear hfz82_0
                try clear hfz82_1
                try clear hfz85_0
                try clear hfz85_1
                try clear hfz86_0
                try clear hfz86_1
                try clear hfz87_0
                try clear hfz87_1
                try clear hfz89_0
                try clear hfz89_1
                try clear hfz94_0
                try clear hfz94_1
                try clear hfz97_0
                try clear hfz97_1
                try clear hfz9_0
                try clear hfz9_1
                try clear p2
                obtain ⟨kq, x70_74, rfl, HA, HJ74, BK282, BK283, BK287, BK291, HB⟩ := hcut
                cases kq with
                | zero => exact absurd HA.out (by simp [hushlaw1_RatioReckons.j2])
                | succ kj74 =>
                  have H := HA.out
                  clear HA
                  simp only [hushlaw1_RatioReckons.j2] at H
                  by_cases c105 : x70_74 = true
                  · subst c105
                    have H1 : (some false) = some r := by rw [if_pos rfl] at H; exact H
                    clear H
                    have H := H1
                    clear H1
                    obtain rfl := Option.some.inj H
                    go_wp2
                    go_ret
                    exact ⟨by first | rfl | (simp [errW_none, errW_some] <;> rfl) | (simp [*, errW_none, errW_some] <;> rfl), by repeat (first | (with_reducible first | exact HB.out | apply below_alloc | apply pw_below_drewN | apply below_drew1 | refine below_set ?_ GE282.out | refine below_set ?_ GE283.out | refine below_set ?_ GE287.out | refine below_set ?_ GE291.out) | exact HB.out)⟩
                  · replace c105 := Bool.eq_false_iff.mpr c105
                    subst c105
                    have H1 : ((ratio_Minus.f kj74 a0_0 a0_1 a1_0 a1_1).bind fun bt304 => ((hushref1_Minus.f kj74 a0_0 a0_1 a1_0 a1_1).bind fun bt307 => (if (!(bt304.1 == bt307.1) || (!(bt304.2.1 == bt307.2.1))) = true then (hushlaw1_RatioReckons.j3 kj74 true a0_0 a0_1 a1_0 a1_1) else (hushlaw1_RatioReckons.j3 kj74 (bt304.2.2 != bt307.2.2) a0_0 a0_1 a1_0 a1_1)))) = some r := by rw [if_neg (show ¬ (false = true) by decide)] at H; exact H
                    clear H
                    have H := H1
                    clear H1
                    replace H := Option.bind_eq_some_iff.mp H
                    obtain ⟨⟨t304, t305, t306⟩, A1060, H⟩ := H
                    replace H : ((hushref1_Minus.f kj74 a0_0 a0_1 a1_0 a1_1).bind fun bt307 => (if (!(t304 == bt307.1) || (!(t305 == bt307.2.1))) = true then (hushlaw1_RatioReckons.j3 kj74 true a0_0 a0_1 a1_0 a1_1) else (hushlaw1_RatioReckons.j3 kj74 (t306 != bt307.2.2) a0_0 a0_1 a1_0 a1_1))) = some r := H
                    have A106 := Aside0.mk A1060
                    clear A1060
                    replace H := Option.bind_eq_some_iff.mp H
                    obtain ⟨⟨t307, t308, t309⟩, A1070, H⟩ := H
                    replace H : (if (!(t304 == t307) || (!(t305 == t308))) = true then (hushlaw1_RatioReckons.j3 kj74 true a0_0 a0_1 a1_0 a1_1) else (hushlaw1_RatioReckons.j3 kj74 (t306 != t309) a0_0 a0_1 a1_0 a1_1)) = some r := H
                    have A107 := Aside0.mk A1070
                    clear A1070
                    have HC108 := Aside0.mk H
                    clear H
                    have hnb109 := NB282_283.out
                    have hnc109 := NB283_282.out
                    have hnb110 := NB282_287.out
                    have hnc110 := NB287_282.out
                    have hnb111 := NB282_291.out
                    have hnc111 := NB291_282.out
                    have hcz112_0 : wc.cell? ⟨gb282, 0, none⟩ = some (.int .i64 a0_0) := (blk_cell BK282.out 0).trans rfl
                    have hcz112_1 : wc.cell? ⟨gb282, 1, none⟩ = some (.int .i64 a0_1) := (blk_cell BK282.out 1).trans rfl
                    have hfz112_0 := blk_frozen BK282.out 0
                    have hfz112_1 := blk_frozen BK282.out 1
                    have hnb113 := NB283_287.out
                    have hnc113 := NB287_283.out
                    have hnb114 := NB283_291.out
                    have hnc114 := NB291_283.out
                    have hcz115_0 : wc.cell? ⟨gb283, 0, none⟩ = some (.int .i64 a1_0) := (blk_cell BK283.out 0).trans rfl
                    have hcz115_1 : wc.cell? ⟨gb283, 1, none⟩ = some (.int .i64 a1_1) := (blk_cell BK283.out 1).trans rfl
                    have hfz115_0 := blk_frozen BK283.out 0
                    have hfz115_1 := blk_frozen BK283.out 1
                    go_upto_region 15 with (first | ((with_reducible refine gate_callee (f := 10) rfl ?_); refine goesL_ (some 74) rfl rfl Try.func10 (by kernel_rfl) rfl #[.agg #[.int .i64 a0_0, .int .i64 a0_1], .agg #[.int .i64 a1_0, .int .i64 a1_1]] rfl (by (try simp only [List.map_toArray, List.map_cons, List.map_nil]); first | done | rfl | (simp only [List.length_drop, List.length_take]; rfl)) ?_; (with_reducible refine (ratio_Minus.calls kj74 a0_0 a0_1 a1_0 a1_1 t304 t305 t306 _ A106.out).mono ?_); rintro e w116 ⟨rfl, hb⟩; refine ⟨_, rfl, ?_⟩; have n0_ := Aside0.mk (blk_below (g := gb282) (o := .cells #[.int .i64 a0_0, .int .i64 a0_1] 23 (0, 0)) (by (with_reducible repeat (first | refine blk_drewN ?_ _ | refine blk_drew ?_ | refine blk_alloc ?_ _)); exact BK282.out) hb); have n1_ := Aside0.mk (blk_below (g := gb283) (o := .cells #[.int .i64 a1_0, .int .i64 a1_1] 23 (0, 0)) (by (with_reducible repeat (first | refine blk_drewN ?_ _ | refine blk_drew ?_ | refine blk_alloc ?_ _)); exact BK283.out) hb); have n2_ := Aside0.mk (blk_below (g := gb287) (o := .cells #[.int .i64 t298, .int .i64 t299] 23 (0, 0)) (by (with_reducible repeat (first | refine blk_drewN ?_ _ | refine blk_drew ?_ | refine blk_alloc ?_ _)); exact BK287.out) hb); have n3_ := Aside0.mk (blk_below (g := gb291) (o := .cells #[.int .i64 t301, .int .i64 t302] 23 (0, 0)) (by (with_reducible repeat (first | refine blk_drewN ?_ _ | refine blk_drew ?_ | refine blk_alloc ?_ _)); exact BK291.out) hb); have n4_ := Aside0.mk (below_step (by repeat (first | (with_reducible first | exact HB.out | apply below_alloc | apply pw_below_drewN | apply below_drew1 | refine below_set ?_ GE282.out | refine below_set ?_ GE283.out | refine below_set ?_ GE287.out | refine below_set ?_ GE291.out) | exact HB.out)) hb); clear BK282; clear BK283; clear BK287; clear BK291; clear HB; have BK282 := n0_; have BK283 := n1_; have BK287 := n2_; have BK291 := n3_; have HB := n4_; clear n0_ n1_ n2_ n3_ n4_; (try clear hb); (try clear hb2); (try clear hk); (try clear hi); have hnb117 := NB287_291.out; have hnc117 := NB291_287.out; have hcz118_0 : w116.cell? ⟨gb287, 0, none⟩ = some (.int .i64 t298) := (blk_cell BK287.out 0).trans rfl; have hcz118_1 : w116.cell? ⟨gb287, 1, none⟩ = some (.int .i64 t299) := (blk_cell BK287.out 1).trans rfl; have hfz118_0 := blk_frozen BK287.out 0; have hfz118_1 := blk_frozen BK287.out 1; have hcz119_0 : w116.cell? ⟨gb282, 0, none⟩ = some (.int .i64 a0_0) := (blk_cell BK282.out 0).trans rfl; have hcz119_1 : w116.cell? ⟨gb282, 1, none⟩ = some (.int .i64 a0_1) := (blk_cell BK282.out 1).trans rfl; have hfz119_0 := blk_frozen BK282.out 0; have hfz119_1 := blk_frozen BK282.out 1; have hcz120_0 : w116.cell? ⟨gb283, 0, none⟩ = some (.int .i64 a1_0) := (blk_cell BK283.out 0).trans rfl; have hcz120_1 : w116.cell? ⟨gb283, 1, none⟩ = some (.int .i64 a1_1) := (blk_cell BK283.out 1).trans rfl; have hfz120_0 := blk_frozen BK283.out 0; have hfz120_1 := blk_frozen BK283.out 1) | ((with_reducible refine gate_callee (f := 23) rfl ?_); refine goesL_ (some 80) rfl rfl Try.func23 (by kernel_rfl) rfl #[.agg #[.int .i64 a0_0, .int .i64 a0_1], .agg #[.int .i64 a1_0, .int .i64 a1_1]] rfl (by (try simp only [List.map_toArray, List.map_cons, List.map_nil]); first | done | rfl | (simp only [List.length_drop, List.length_take]; rfl)) ?_; (with_reducible refine (hushref1_Minus.calls kj74 a0_0 a0_1 a1_0 a1_1 t307 t308 t309 _ A107.out).mono ?_); rintro e w121 ⟨rfl, hb⟩; refine ⟨_, rfl, ?_⟩; have n0_ := Aside0.mk (blk_below (g := gb282) (o := .cells #[.int .i64 a0_0, .int .i64 a0_1] 23 (0, 0)) (by (with_reducible repeat (first | refine blk_drewN ?_ _ | refine blk_drew ?_ | refine blk_alloc ?_ _)); refine blk_far ?_ NB282_287.out _; (with_reducible repeat (first | refine blk_drewN ?_ _ | refine blk_drew ?_ | refine blk_alloc ?_ _)); refine blk_far ?_ NB282_287.out _; (with_reducible repeat (first | refine blk_drewN ?_ _ | refine blk_drew ?_ | refine blk_alloc ?_ _)); exact BK282.out) hb); have n1_ := Aside0.mk (blk_below (g := gb283) (o := .cells #[.int .i64 a1_0, .int .i64 a1_1] 23 (0, 0)) (by (with_reducible repeat (first | refine blk_drewN ?_ _ | refine blk_drew ?_ | refine blk_alloc ?_ _)); refine blk_far ?_ NB283_287.out _; (with_reducible repeat (first | refine blk_drewN ?_ _ | refine blk_drew ?_ | refine blk_alloc ?_ _)); refine blk_far ?_ NB283_287.out _; (with_reducible repeat (first | refine blk_drewN ?_ _ | refine blk_drew ?_ | refine blk_alloc ?_ _)); exact BK283.out) hb); have n2_ := Aside0.mk (blk_below (g := gb287) (o := .cells #[.int .i64 t304, .int .i64 t305] 23 (0, 0)) (by (with_reducible repeat (first | refine blk_drewN ?_ _ | refine blk_drew ?_ | refine blk_alloc ?_ _)); refine blk_put (cs := #[.int .i64 t304, .int .i64 t299]) ?_ 1 _ rfl; (with_reducible repeat (first | refine blk_drewN ?_ _ | refine blk_drew ?_ | refine blk_alloc ?_ _)); refine blk_put (cs := #[.int .i64 t298, .int .i64 t299]) ?_ 0 _ rfl; (with_reducible repeat (first | refine blk_drewN ?_ _ | refine blk_drew ?_ | refine blk_alloc ?_ _)); exact BK287.out) hb); have n3_ := Aside0.mk (blk_below (g := gb291) (o := .cells #[.int .i64 t301, .int .i64 t302] 23 (0, 0)) (by (with_reducible repeat (first | refine blk_drewN ?_ _ | refine blk_drew ?_ | refine blk_alloc ?_ _)); refine blk_far ?_ NB291_287.out _; (with_reducible repeat (first | refine blk_drewN ?_ _ | refine blk_drew ?_ | refine blk_alloc ?_ _)); refine blk_far ?_ NB291_287.out _; (with_reducible repeat (first | refine blk_drewN ?_ _ | refine blk_drew ?_ | refine blk_alloc ?_ _)); exact BK291.out) hb); have n4_ := Aside0.mk (below_step (by repeat (first | (with_reducible first | exact HB.out | apply below_alloc | apply pw_below_drewN | apply below_drew1 | refine below_set ?_ GE282.out | refine below_set ?_ GE283.out | refine below_set ?_ GE287.out | refine below_set ?_ GE291.out) | exact HB.out)) hb); clear BK282; clear BK283; clear BK287; clear BK291; clear HB; have BK282 := n0_; have BK283 := n1_; have BK287 := n2_; have BK291 := n3_; have HB := n4_; clear n0_ n1_ n2_ n3_ n4_; (try clear hb); (try clear hb2); (try clear hk); (try clear hi); have hcz122_0 : w121.cell? ⟨gb291, 0, none⟩ = some (.int .i64 t301) := (blk_cell BK291.out 0).trans rfl; have hcz122_1 : w121.cell? ⟨gb291, 1, none⟩ = some (.int .i64 t302) := (blk_cell BK291.out 1).trans rfl; have hfz122_0 := blk_frozen BK291.out 0; have hfz122_1 := blk_frozen BK291.out 1))
                    (try simp only [Act.put, List.setIfInBounds_toArray, List.set_cons_zero, List.set_cons_succ])
                    go_cut [90] (fun v90 wc => ∃ (kq : Nat) (x90_107 : Bool), v90 = .bool x90_107 ∧ Aside0 (hushlaw1_RatioReckons.j3 kq x90_107 a0_0 a0_1 a1_0 a1_1 = some r) ∧ Aside0 (kq ≤ kj74) ∧ Aside0 (wc.heap[gb282]? = some (.cells #[.int .i64 a0_0, .int .i64 a0_1] 23 (0, 0))) ∧ Aside0 (wc.heap[gb283]? = some (.cells #[.int .i64 a1_0, .int .i64 a1_1] 23 (0, 0))) ∧ Aside0 (wc.heap[gb287]? = some (.cells #[.int .i64 t304, .int .i64 t305] 23 (0, 0))) ∧ Aside0 (wc.heap[gb291]? = some (.cells #[.int .i64 t307, .int .i64 t308] 23 (0, 0))) ∧ Aside0 (Below w.heap.size w wc))
                    case first =>
                      have H := HC108.out
                      clear HC108
                      by_cases c123 : (!(t304 == t307) || (!(t305 == t308))) = true
                      · rw [if_pos c123] at H
                        have c123b0 : (!(t304 == t307) || (!(t305 == t308))) = true := c123
                        clear c123
                        (first | rw [c123b0] | (simp only [i64_w, i32_w]; rw [c123b0]) | skip)
                        have H' := Aside0.mk H
                        clear H
                        have hnb124 := NB287_282.out
                        have hnc124 := NB282_287.out
                        have hnb125 := NB287_283.out
                        have hnc125 := NB283_287.out
                        have hnb126 := NB287_291.out
                        have hnc126 := NB291_287.out
                        have hcz127_0 : w121.cell? ⟨gb287, 0, none⟩ = some (.int .i64 t304) := (blk_cell BK287.out 0).trans rfl
                        have hcz127_1 : w121.cell? ⟨gb287, 1, none⟩ = some (.int .i64 t305) := (blk_cell BK287.out 1).trans rfl
                        have hfz127_0 := blk_frozen BK287.out 0
                        have hfz127_1 := blk_frozen BK287.out 1
                        have hnb128 := NB291_282.out
                        have hnc128 := NB282_291.out
                        have hnb129 := NB291_283.out
                        have hnc129 := NB283_291.out
                        have hcz130_0 : w121.cell? ⟨gb291, 0, none⟩ = some (.int .i64 t301) := (blk_cell BK291.out 0).trans rfl
                        have hcz130_1 : w121.cell? ⟨gb291, 1, none⟩ = some (.int .i64 t302) := (blk_cell BK291.out 1).trans rfl
                        have hfz130_0 := blk_frozen BK291.out 0
                        have hfz130_1 := blk_frozen BK291.out 1
                        go_wp2
                        go_meet
                        case rel => exact ⟨_, (true), (by first | rfl | (simp; done) | (simp [*]; done)), H', ⟨by have := HJ4.out; have := HJ41.out; have := HJ74.out; first | omega | exact Nat.le_refl _⟩, ⟨by (with_reducible repeat (first | refine blk_drewN ?_ _ | refine blk_drew ?_ | refine blk_alloc ?_ _)); refine blk_far ?_ NB282_291.out _; (with_reducible repeat (first | refine blk_drewN ?_ _ | refine blk_drew ?_ | refine blk_alloc ?_ _)); refine blk_far ?_ NB282_291.out _; (with_reducible repeat (first | refine blk_drewN ?_ _ | refine blk_drew ?_ | refine blk_alloc ?_ _)); exact BK282.out⟩, ⟨by (with_reducible repeat (first | refine blk_drewN ?_ _ | refine blk_drew ?_ | refine blk_alloc ?_ _)); refine blk_far ?_ NB283_291.out _; (with_reducible repeat (first | refine blk_drewN ?_ _ | refine blk_drew ?_ | refine blk_alloc ?_ _)); refine blk_far ?_ NB283_291.out _; (with_reducible repeat (first | refine blk_drewN ?_ _ | refine blk_drew ?_ | refine blk_alloc ?_ _)); exact BK283.out⟩, ⟨by (with_reducible repeat (first | refine blk_drewN ?_ _ | refine blk_drew ?_ | refine blk_alloc ?_ _)); refine blk_far ?_ NB287_291.out _; (with_reducible repeat (first | refine blk_drewN ?_ _ | refine blk_drew ?_ | refine blk_alloc ?_ _)); refine blk_far ?_ NB287_291.out _; (with_reducible repeat (first | refine blk_drewN ?_ _ | refine blk_drew ?_ | refine blk_alloc ?_ _)); exact BK287.out⟩, ⟨by (with_reducible repeat (first | refine blk_drewN ?_ _ | refine blk_drew ?_ | refine blk_alloc ?_ _)); refine blk_put (cs := #[.int .i64 t307, .int .i64 t302]) ?_ 1 _ rfl; (with_reducible repeat (first | refine blk_drewN ?_ _ | refine blk_drew ?_ | refine blk_alloc ?_ _)); refine blk_put (cs := #[.int .i64 t301, .int .i64 t302]) ?_ 0 _ rfl; (with_reducible repeat (first | refine blk_drewN ?_ _ | refine blk_drew ?_ | refine blk_alloc ?_ _)); exact BK291.out⟩, ⟨by repeat (first | (with_reducible first | exact HB.out | apply below_alloc | apply pw_below_drewN | apply below_drew1 | refine below_set ?_ GE282.out | refine below_set ?_ GE283.out | refine below_set ?_ GE287.out | refine below_set ?_ GE291.out) | exact HB.out)⟩⟩
                      · rw [if_neg c123] at H
                        have c123b0 : (!(t304 == t307) || (!(t305 == t308))) = false := by simpa using c123
                        clear c123
                        (first | rw [c123b0] | (simp only [i64_w, i32_w]; rw [c123b0]) | skip)
                        have H' := Aside0.mk H
                        clear H
                        have hnb131 := NB287_282.out
                        have hnc131 := NB282_287.out
                        have hnb132 := NB287_283.out
                        have hnc132 := NB283_287.out
                        have hnb133 := NB287_291.out
                        have hnc133 := NB291_287.out
                        have hcz134_0 : w121.cell? ⟨gb287, 0, none⟩ = some (.int .i64 t304) := (blk_cell BK287.out 0).trans rfl
                        have hcz134_1 : w121.cell? ⟨gb287, 1, none⟩ = some (.int .i64 t305) := (blk_cell BK287.out 1).trans rfl
                        have hfz134_0 := blk_frozen BK287.out 0
                        have hfz134_1 := blk_frozen BK287.out 1
                        have hnb135 := NB291_282.out
                        have hnc135 := NB282_291.out
                        have hnb136 := NB291_283.out
                        have hnc136 := NB283_291.out
                        have hcz137_0 : w121.cell? ⟨gb291, 0, none⟩ = some (.int .i64 t301) := (blk_cell BK291.out 0).trans rfl
                        have hcz137_1 : w121.cell? ⟨gb291, 1, none⟩ = some (.int .i64 t302) := (blk_cell BK291.out 1).trans rfl
                        have hfz137_0 := blk_frozen BK291.out 0
                        have hfz137_1 := blk_frozen BK291.out 1
                        go_wp2
                        go_meet
                        case rel => exact ⟨_, ((t306 != t309)), (by first | rfl | (simp; done) | (simp [*]; done)), H', ⟨by have := HJ4.out; have := HJ41.out; have := HJ74.out; first | omega | exact Nat.le_refl _⟩, ⟨by (with_reducible repeat (first | refine blk_drewN ?_ _ | refine blk_drew ?_ | refine blk_alloc ?_ _)); refine blk_far ?_ NB282_291.out _; (with_reducible repeat (first | refine blk_drewN ?_ _ | refine blk_drew ?_ | refine blk_alloc ?_ _)); refine blk_far ?_ NB282_291.out _; (with_reducible repeat (first | refine blk_drewN ?_ _ | refine blk_drew ?_ | refine blk_alloc ?_ _)); exact BK282.out⟩, ⟨by (with_reducible repeat (first | refine blk_drewN ?_ _ | refine blk_drew ?_ | refine blk_alloc ?_ _)); refine blk_far ?_ NB283_291.out _; (with_reducible repeat (first | refine blk_drewN ?_ _ | refine blk_drew ?_ | refine blk_alloc ?_ _)); refine blk_far ?_ NB283_291.out _; (with_reducible repeat (first | refine blk_drewN ?_ _ | refine blk_drew ?_ | refine blk_alloc ?_ _)); exact BK283.out⟩, ⟨by (with_reducible repeat (first | refine blk_drewN ?_ _ | refine blk_drew ?_ | refine blk_alloc ?_ _)); refine blk_far ?_ NB287_291.out _; (with_reducible repeat (first | refine blk_drewN ?_ _ | refine blk_drew ?_ | refine blk_alloc ?_ _)); refine blk_far ?_ NB287_291.out _; (with_reducible repeat (first | refine blk_drewN ?_ _ | refine blk_drew ?_ | refine blk_alloc ?_ _)); exact BK287.out⟩, ⟨by (with_reducible repeat (first | refine blk_drewN ?_ _ | refine blk_drew ?_ | refine blk_alloc ?_ _)); refine blk_put (cs := #[.int .i64 t307, .int .i64 t302]) ?_ 1 _ rfl; (with_reducible repeat (first | refine blk_drewN ?_ _ | refine blk_drew ?_ | refine blk_alloc ?_ _)); refine blk_put (cs := #[.int .i64 t301, .int .i64 t302]) ?_ 0 _ rfl; (with_reducible repeat (first | refine blk_drewN ?_ _ | refine blk_drew ?_ | refine blk_alloc ?_ _)); exact BK291.out⟩, ⟨by repeat (first | (with_reducible first | exact HB.out | apply below_alloc | apply pw_below_drewN | apply below_drew1 | refine below_set ?_ GE282.out | refine below_set ?_ GE283.out | refine below_set ?_ GE287.out | refine below_set ?_ GE291.out) | exact HB.out)⟩⟩
                    case rest =>
                      clear HC108
                      try clear c1
                      try clear c2
                      try clear p2
                      try clear c3
                      try clear c4
                      try clear c5
                      try clear c6
                      try clear c7
                      try clear c8
                      try clear c9
                      try clear c10
                      try clear c11
                      try clear c12
                      try clear c13
                      try clear c14
                      try clear c18
                      try clear c19
                      try clear c20
                      try clear c21
                      try clear c22
                      try clear c23
                      try clear c24
                      try clear c24b0
                      try clear c25
                      try clear c26
                      try clear c27
                      try clear c29
                      try clear c30
                      try clear c32
                      try clear c33
                      try clear c34
                      try clear c36
                      try clear c37
                      try clear c39
                      try clear c43
                      try clear c44
                      try clear c45
                      try clear c47
                      try clear c48
                      try clear c51
                      try clear c57
                      try clear c57b0
                      try clear c58
                      try clear c59
                      try clear c60
                      try clear c62
                      try clear c63
                      try clear c65
                      try clear c66
                      try clear c67
                      try clear c69
                      try clear c70
                      try clear c72
                      try clear c76
                      try clear c77
                      try clear c78
                      try clear c80
                      try clear c81
                      try clear c84
                      try clear c90
                      try clear c90b0
                      try clear c91
                      try clear c92
                      try clear c93
                      try clear c95
                      try clear c96
                      try clear c98
                      try clear c99
                      try clear c100
                      try clear c102
                      try clear c103
                      try clear c105
                      try clear c109
                      try clear c110
                      try clear c111
                      try clear c113
                      try clear c114
                      try clear c117
                      try clear c123
                      try clear c123b0
                      try clear c124
                      try clear c125
                      try clear c126
                      try clear c128
                      try clear c129
                      try clear c131
                      try clear c132
                      try clear c133
                      try clear c135
                      try clear c136
                      try clear hcz101_0
                      try clear hcz101_1
                      try clear hcz104_0
                      try clear hcz104_1
                      try clear hcz10_0
                      try clear hcz10_1
                      try clear hcz112_0
                      try clear hcz112_1
                      try clear hcz115_0
                      try clear hcz115_1
                      try clear hcz118_0
                      try clear hcz118_1
                      try clear hcz119_0
                      try clear hcz119_1
                      try clear hcz120_0
                      try clear hcz120_1
                      try clear hcz122_0
                      try clear hcz122_1
                      try clear hcz127_0
                      try clear hcz127_1
                      try clear hcz130_0
                      try clear hcz130_1
                      try clear hcz134_0
                      try clear hcz134_1
                      try clear hcz137_0
                      try clear hcz137_1
                      try clear hcz15_0
                      try clear hcz15_1
                      try clear hcz16_0
                      try clear hcz16_1
                      try clear hcz17_0
                      try clear hcz17_1
                      try clear hcz23_0
                      try clear hcz23_1
                      try clear hcz28_0
                      try clear hcz28_1
                      try clear hcz31_0
                      try clear hcz31_1
                      try clear hcz35_0
                      try clear hcz35_1
                      try clear hcz38_0
                      try clear hcz38_1
                      try clear hcz46_0
                      try clear hcz46_1
                      try clear hcz49_0
                      try clear hcz49_1
                      try clear hcz52_0
                      try clear hcz52_1
                      try clear hcz53_0
                      try clear hcz53_1
                      try clear hcz54_0
                      try clear hcz54_1
                      try clear hcz56_0
                      try clear hcz56_1
                      try clear hcz61_0
                      try clear hcz61_1
                      try clear hcz64_0
                      try clear hcz64_1
                      try clear hcz68_0
                      try clear hcz68_1
                      try clear hcz71_0
                      try clear hcz71_1
                      try clear hcz79_0
                      try clear hcz79_1
                      try clear hcz82_0
                      try clear hcz82_1
                      try clear hcz85_0
                      try clear hcz85_1
                      try clear hcz86_0
                      try clear hcz86_1
                      try clear hcz87_0
                      try clear hcz87_1
                      try clear hcz89_0
                      try clear hcz89_1
                      try clear hcz94_0
                      try clear hcz94_1
                      try clear hcz97_0
                      try clear hcz97_1
                      try clear hcz9_0
                      try clear hcz9_1
                      try clear hfz101_0
                      try clear hfz101_1
                      try clear hfz104_0
                      try clear hfz104_1
                      try clear hfz10_0
                      try clear hfz10_1
                      try clear hfz112_0
                      try clear hfz112_1
                      try clear hfz115_0
                      try clear hfz115_1
                      try clear hfz118_0
                      try clear hfz118_1
                      try clear hfz119_0
                      try clear hfz119_1
                      try clear hfz120_0
                      try clear hfz120_1
                      try clear hfz122_0
                      try clear hfz122_1
                      try clear hfz127_0
                      try clear hfz127_1
                      try clear hfz130_0
                      try clear hfz130_1
                      try clear hfz134_0
                      try clear hfz134_1
                      try clear hfz137_0
                      try clear hfz137_1
                      try clear hfz15_0
                      try clear hfz15_1
                      try clear hfz16_0
                      try clear hfz16_1
                      try clear hfz17_0
                      try clear hfz17_1
                      try clear hfz23_0
                      try clear hfz23_1
                      try clear hfz28_0
                      try clear hfz28_1
                      try clear hfz31_0
                      try clear hfz31_1
                      try clear hfz35_0
                      try clear hfz35_1
                      try clear hfz38_0
                      try clear hfz38_1
                      try clear hfz46_0
                      try clear hfz46_1
                      try clear hfz49_0
                      try clear hfz49_1
                      try clear hfz52_0
                      try clear hfz52_1
                      try clear hfz53_0
                      try clear hfz53_1
                      try clear hfz54_0
                      try clear hfz54_1
                      try clear hfz56_0
                      try clear hfz56_1
                      try clear hfz61_0
                      try clear hfz61_1
                      try clear hfz64_0
                      try clear hfz64_1
                      try clear hfz68_0
                      try clear hfz68_1
                      try clear hfz71_0
                      try clear hfz71_1
                      try clear hfz79_0
                      try clear hfz79_1
                      try clear hfz82_0
                      try clear hfz82_1
                      try clear hfz85_0
                      try clear hfz85_1
                      try clear hfz86_0
                      try clear hfz86_1
                      try clear hfz87_0
                      try clear hfz87_1
                      try clear hfz89_0
                      try clear hfz89_1
                      try clear hfz94_0
                      try clear hfz94_1
                      try clear hfz97_0
                      try clear hfz97_1
                      try clear hfz9_0
                      try clear hfz9_1
                      try clear p2
                      obtain ⟨kq, x90_107, rfl, HA, HJ107, BK282, BK283, BK287, BK291, HB⟩ := hcut
                      cases kq with
                      | zero => exact absurd HA.out (by simp [hushlaw1_RatioReckons.j3])
                      | succ kj107 =>
                        have H := HA.out
                        clear HA
                        simp only [hushlaw1_RatioReckons.j3] at H
                        by_cases c138 : x90_107 = true
                        · subst c138
                          have H1 : (some false) = some r := by rw [if_pos rfl] at H; exact H
                          clear H
                          have H := H1
                          clear H1
                          obtain rfl := Option.some.inj H
                          go_wp2
                          go_ret
                          exact ⟨by first | rfl | (simp [errW_none, errW_some] <;> rfl) | (simp [*, errW_none, errW_some] <;> rfl), by repeat (first | (with_reducible first | exact HB.out | apply below_alloc | apply pw_below_drewN | apply below_drew1 | refine below_set ?_ GE282.out | refine below_set ?_ GE283.out | refine below_set ?_ GE287.out | refine below_set ?_ GE291.out) | exact HB.out)⟩
                        · replace c138 := Bool.eq_false_iff.mpr c138
                          subst c138
                          have H1 : ((ratio_Order.f kj107 a0_0 a0_1 a1_0 a1_1).bind fun bt310 => ((hushref1_Order.f kj107 a0_0 a0_1 a1_0 a1_1).bind fun bt312 => (if bt310.1 = bt312.1 then (some (bt310.2 == bt312.2)) else (some false)))) = some r := by rw [if_neg (show ¬ (false = true) by decide)] at H; exact H
                          clear H
                          have H := H1
                          clear H1
                          replace H := Option.bind_eq_some_iff.mp H
                          obtain ⟨⟨t310, t311⟩, A1390, H⟩ := H
                          replace H : ((hushref1_Order.f kj107 a0_0 a0_1 a1_0 a1_1).bind fun bt312 => (if t310 = bt312.1 then (some (t311 == bt312.2)) else (some false))) = some r := H
                          have A139 := Aside0.mk A1390
                          clear A1390
                          replace H := Option.bind_eq_some_iff.mp H
                          obtain ⟨⟨t312, t313⟩, A1400, H⟩ := H
                          replace H : (if t310 = t312 then (some (t311 == t313)) else (some false)) = some r := H
                          have A140 := Aside0.mk A1400
                          clear A1400
                          by_cases c141 : t310 = t312
                          · rw [if_pos c141] at H
                            have c141b0 : (t310 == t312) = true := beq_iff_eq.mpr c141
                            have c141b1 : (t310 != t312) = false := bne_eq_false_iff_eq.mpr c141
                            clear c141
                            obtain rfl := Option.some.inj H
                            have hnb142 := NB282_283.out
                            have hnc142 := NB283_282.out
                            have hnb143 := NB282_287.out
                            have hnc143 := NB287_282.out
                            have hnb144 := NB282_291.out
                            have hnc144 := NB291_282.out
                            have hcz145_0 : wc.cell? ⟨gb282, 0, none⟩ = some (.int .i64 a0_0) := (blk_cell BK282.out 0).trans rfl
                            have hcz145_1 : wc.cell? ⟨gb282, 1, none⟩ = some (.int .i64 a0_1) := (blk_cell BK282.out 1).trans rfl
                            have hfz145_0 := blk_frozen BK282.out 0
                            have hfz145_1 := blk_frozen BK282.out 1
                            have hnb146 := NB283_287.out
                            have hnc146 := NB287_283.out
                            have hnb147 := NB283_291.out
                            have hnc147 := NB291_283.out
                            have hcz148_0 : wc.cell? ⟨gb283, 0, none⟩ = some (.int .i64 a1_0) := (blk_cell BK283.out 0).trans rfl
                            have hcz148_1 : wc.cell? ⟨gb283, 1, none⟩ = some (.int .i64 a1_1) := (blk_cell BK283.out 1).trans rfl
                            have hfz148_0 := blk_frozen BK283.out 0
                            have hfz148_1 := blk_frozen BK283.out 1
                            go_wp2_with (first | ((with_reducible refine gate_callee (f := 11) rfl ?_); refine goesL_ (some 94) rfl rfl Try.func11 (by kernel_rfl) rfl #[.agg #[.int .i64 a0_0, .int .i64 a0_1], .agg #[.int .i64 a1_0, .int .i64 a1_1]] rfl (by (try simp only [List.map_toArray, List.map_cons, List.map_nil]); first | done | rfl | (simp only [List.length_drop, List.length_take]; rfl)) ?_; (with_reducible refine (ratio_Order.calls kj107 a0_0 a0_1 a1_0 a1_1 t310 t311 _ A139.out).mono ?_); rintro e w149 ⟨rfl, hb⟩; refine ⟨_, rfl, ?_⟩; have n0_ := Aside0.mk (blk_below (g := gb282) (o := .cells #[.int .i64 a0_0, .int .i64 a0_1] 23 (0, 0)) (by (with_reducible repeat (first | refine blk_drewN ?_ _ | refine blk_drew ?_ | refine blk_alloc ?_ _)); exact BK282.out) hb); have n1_ := Aside0.mk (blk_below (g := gb283) (o := .cells #[.int .i64 a1_0, .int .i64 a1_1] 23 (0, 0)) (by (with_reducible repeat (first | refine blk_drewN ?_ _ | refine blk_drew ?_ | refine blk_alloc ?_ _)); exact BK283.out) hb); have n2_ := Aside0.mk (blk_below (g := gb287) (o := .cells #[.int .i64 t304, .int .i64 t305] 23 (0, 0)) (by (with_reducible repeat (first | refine blk_drewN ?_ _ | refine blk_drew ?_ | refine blk_alloc ?_ _)); exact BK287.out) hb); have n3_ := Aside0.mk (blk_below (g := gb291) (o := .cells #[.int .i64 t307, .int .i64 t308] 23 (0, 0)) (by (with_reducible repeat (first | refine blk_drewN ?_ _ | refine blk_drew ?_ | refine blk_alloc ?_ _)); exact BK291.out) hb); have n4_ := Aside0.mk (below_step (by repeat (first | (with_reducible first | exact HB.out | apply below_alloc | apply pw_below_drewN | apply below_drew1 | refine below_set ?_ GE282.out | refine below_set ?_ GE283.out | refine below_set ?_ GE287.out | refine below_set ?_ GE291.out) | exact HB.out)) hb); clear BK282; clear BK283; clear BK287; clear BK291; clear HB; have BK282 := n0_; have BK283 := n1_; have BK287 := n2_; have BK291 := n3_; have HB := n4_; clear n0_ n1_ n2_ n3_ n4_; (try clear hb); (try clear hb2); (try clear hk); (try clear hi); have hcz150_0 : w149.cell? ⟨gb282, 0, none⟩ = some (.int .i64 a0_0) := (blk_cell BK282.out 0).trans rfl; have hcz150_1 : w149.cell? ⟨gb282, 1, none⟩ = some (.int .i64 a0_1) := (blk_cell BK282.out 1).trans rfl; have hfz150_0 := blk_frozen BK282.out 0; have hfz150_1 := blk_frozen BK282.out 1; have hcz151_0 : w149.cell? ⟨gb283, 0, none⟩ = some (.int .i64 a1_0) := (blk_cell BK283.out 0).trans rfl; have hcz151_1 : w149.cell? ⟨gb283, 1, none⟩ = some (.int .i64 a1_1) := (blk_cell BK283.out 1).trans rfl; have hfz151_0 := blk_frozen BK283.out 0; have hfz151_1 := blk_frozen BK283.out 1) | ((with_reducible refine gate_callee (f := 24) rfl ?_); refine goesL_ (some 100) rfl rfl Try.func24 (by kernel_rfl) rfl #[.agg #[.int .i64 a0_0, .int .i64 a0_1], .agg #[.int .i64 a1_0, .int .i64 a1_1]] rfl (by (try simp only [List.map_toArray, List.map_cons, List.map_nil]); first | done | rfl | (simp only [List.length_drop, List.length_take]; rfl)) ?_; (with_reducible refine (hushref1_Order.calls kj107 a0_0 a0_1 a1_0 a1_1 t312 t313 _ A140.out).mono ?_); rintro e w152 ⟨rfl, hb⟩; refine ⟨_, rfl, ?_⟩; have n0_ := Aside0.mk (blk_below (g := gb282) (o := .cells #[.int .i64 a0_0, .int .i64 a0_1] 23 (0, 0)) (by (with_reducible repeat (first | refine blk_drewN ?_ _ | refine blk_drew ?_ | refine blk_alloc ?_ _)); exact BK282.out) hb); have n1_ := Aside0.mk (blk_below (g := gb283) (o := .cells #[.int .i64 a1_0, .int .i64 a1_1] 23 (0, 0)) (by (with_reducible repeat (first | refine blk_drewN ?_ _ | refine blk_drew ?_ | refine blk_alloc ?_ _)); exact BK283.out) hb); have n2_ := Aside0.mk (blk_below (g := gb287) (o := .cells #[.int .i64 t304, .int .i64 t305] 23 (0, 0)) (by (with_reducible repeat (first | refine blk_drewN ?_ _ | refine blk_drew ?_ | refine blk_alloc ?_ _)); exact BK287.out) hb); have n3_ := Aside0.mk (blk_below (g := gb291) (o := .cells #[.int .i64 t307, .int .i64 t308] 23 (0, 0)) (by (with_reducible repeat (first | refine blk_drewN ?_ _ | refine blk_drew ?_ | refine blk_alloc ?_ _)); exact BK291.out) hb); have n4_ := Aside0.mk (below_step (by repeat (first | (with_reducible first | exact HB.out | apply below_alloc | apply pw_below_drewN | apply below_drew1 | refine below_set ?_ GE282.out | refine below_set ?_ GE283.out | refine below_set ?_ GE287.out | refine below_set ?_ GE291.out) | exact HB.out)) hb); clear BK282; clear BK283; clear BK287; clear BK291; clear HB; have BK282 := n0_; have BK283 := n1_; have BK287 := n2_; have BK291 := n3_; have HB := n4_; clear n0_ n1_ n2_ n3_ n4_; (try clear hb); (try clear hb2); (try clear hk); (try clear hi)))
                            go_ret
                            exact ⟨by first | rfl | (simp [errW_none, errW_some] <;> rfl) | (simp [*, errW_none, errW_some] <;> rfl), by repeat (first | (with_reducible first | exact HB.out | apply below_alloc | apply pw_below_drewN | apply below_drew1 | refine below_set ?_ GE282.out | refine below_set ?_ GE283.out | refine below_set ?_ GE287.out | refine below_set ?_ GE291.out) | exact HB.out)⟩
                          · rw [if_neg c141] at H
                            have c141b0 : (t310 == t312) = false := beq_eq_false_iff_ne.mpr c141
                            have c141b1 : (t310 != t312) = true := bne_iff_ne.mpr c141
                            obtain rfl := Option.some.inj H
                            have hnb153 := NB282_283.out
                            have hnc153 := NB283_282.out
                            have hnb154 := NB282_287.out
                            have hnc154 := NB287_282.out
                            have hnb155 := NB282_291.out
                            have hnc155 := NB291_282.out
                            have hcz156_0 : wc.cell? ⟨gb282, 0, none⟩ = some (.int .i64 a0_0) := (blk_cell BK282.out 0).trans rfl
                            have hcz156_1 : wc.cell? ⟨gb282, 1, none⟩ = some (.int .i64 a0_1) := (blk_cell BK282.out 1).trans rfl
                            have hfz156_0 := blk_frozen BK282.out 0
                            have hfz156_1 := blk_frozen BK282.out 1
                            have hnb157 := NB283_287.out
                            have hnc157 := NB287_283.out
                            have hnb158 := NB283_291.out
                            have hnc158 := NB291_283.out
                            have hcz159_0 : wc.cell? ⟨gb283, 0, none⟩ = some (.int .i64 a1_0) := (blk_cell BK283.out 0).trans rfl
                            have hcz159_1 : wc.cell? ⟨gb283, 1, none⟩ = some (.int .i64 a1_1) := (blk_cell BK283.out 1).trans rfl
                            have hfz159_0 := blk_frozen BK283.out 0
                            have hfz159_1 := blk_frozen BK283.out 1
                            go_wp2_with (first | ((with_reducible refine gate_callee (f := 11) rfl ?_); refine goesL_ (some 94) rfl rfl Try.func11 (by kernel_rfl) rfl #[.agg #[.int .i64 a0_0, .int .i64 a0_1], .agg #[.int .i64 a1_0, .int .i64 a1_1]] rfl (by (try simp only [List.map_toArray, List.map_cons, List.map_nil]); first | done | rfl | (simp only [List.length_drop, List.length_take]; rfl)) ?_; (with_reducible refine (ratio_Order.calls kj107 a0_0 a0_1 a1_0 a1_1 t310 t311 _ A139.out).mono ?_); rintro e w160 ⟨rfl, hb⟩; refine ⟨_, rfl, ?_⟩; have n0_ := Aside0.mk (blk_below (g := gb282) (o := .cells #[.int .i64 a0_0, .int .i64 a0_1] 23 (0, 0)) (by (with_reducible repeat (first | refine blk_drewN ?_ _ | refine blk_drew ?_ | refine blk_alloc ?_ _)); exact BK282.out) hb); have n1_ := Aside0.mk (blk_below (g := gb283) (o := .cells #[.int .i64 a1_0, .int .i64 a1_1] 23 (0, 0)) (by (with_reducible repeat (first | refine blk_drewN ?_ _ | refine blk_drew ?_ | refine blk_alloc ?_ _)); exact BK283.out) hb); have n2_ := Aside0.mk (blk_below (g := gb287) (o := .cells #[.int .i64 t304, .int .i64 t305] 23 (0, 0)) (by (with_reducible repeat (first | refine blk_drewN ?_ _ | refine blk_drew ?_ | refine blk_alloc ?_ _)); exact BK287.out) hb); have n3_ := Aside0.mk (blk_below (g := gb291) (o := .cells #[.int .i64 t307, .int .i64 t308] 23 (0, 0)) (by (with_reducible repeat (first | refine blk_drewN ?_ _ | refine blk_drew ?_ | refine blk_alloc ?_ _)); exact BK291.out) hb); have n4_ := Aside0.mk (below_step (by repeat (first | (with_reducible first | exact HB.out | apply below_alloc | apply pw_below_drewN | apply below_drew1 | refine below_set ?_ GE282.out | refine below_set ?_ GE283.out | refine below_set ?_ GE287.out | refine below_set ?_ GE291.out) | exact HB.out)) hb); clear BK282; clear BK283; clear BK287; clear BK291; clear HB; have BK282 := n0_; have BK283 := n1_; have BK287 := n2_; have BK291 := n3_; have HB := n4_; clear n0_ n1_ n2_ n3_ n4_; (try clear hb); (try clear hb2); (try clear hk); (try clear hi); have hcz161_0 : w160.cell? ⟨gb282, 0, none⟩ = some (.int .i64 a0_0) := (blk_cell BK282.out 0).trans rfl; have hcz161_1 : w160.cell? ⟨gb282, 1, none⟩ = some (.int .i64 a0_1) := (blk_cell BK282.out 1).trans rfl; have hfz161_0 := blk_frozen BK282.out 0; have hfz161_1 := blk_frozen BK282.out 1; have hcz162_0 : w160.cell? ⟨gb283, 0, none⟩ = some (.int .i64 a1_0) := (blk_cell BK283.out 0).trans rfl; have hcz162_1 : w160.cell? ⟨gb283, 1, none⟩ = some (.int .i64 a1_1) := (blk_cell BK283.out 1).trans rfl; have hfz162_0 := blk_frozen BK283.out 0; have hfz162_1 := blk_frozen BK283.out 1) | ((with_reducible refine gate_callee (f := 24) rfl ?_); refine goesL_ (some 100) rfl rfl Try.func24 (by kernel_rfl) rfl #[.agg #[.int .i64 a0_0, .int .i64 a0_1], .agg #[.int .i64 a1_0, .int .i64 a1_1]] rfl (by (try simp only [List.map_toArray, List.map_cons, List.map_nil]); first | done | rfl | (simp only [List.length_drop, List.length_take]; rfl)) ?_; (with_reducible refine (hushref1_Order.calls kj107 a0_0 a0_1 a1_0 a1_1 t312 t313 _ A140.out).mono ?_); rintro e w163 ⟨rfl, hb⟩; refine ⟨_, rfl, ?_⟩; have n0_ := Aside0.mk (blk_below (g := gb282) (o := .cells #[.int .i64 a0_0, .int .i64 a0_1] 23 (0, 0)) (by (with_reducible repeat (first | refine blk_drewN ?_ _ | refine blk_drew ?_ | refine blk_alloc ?_ _)); exact BK282.out) hb); have n1_ := Aside0.mk (blk_below (g := gb283) (o := .cells #[.int .i64 a1_0, .int .i64 a1_1] 23 (0, 0)) (by (with_reducible repeat (first | refine blk_drewN ?_ _ | refine blk_drew ?_ | refine blk_alloc ?_ _)); exact BK283.out) hb); have n2_ := Aside0.mk (blk_below (g := gb287) (o := .cells #[.int .i64 t304, .int .i64 t305] 23 (0, 0)) (by (with_reducible repeat (first | refine blk_drewN ?_ _ | refine blk_drew ?_ | refine blk_alloc ?_ _)); exact BK287.out) hb); have n3_ := Aside0.mk (blk_below (g := gb291) (o := .cells #[.int .i64 t307, .int .i64 t308] 23 (0, 0)) (by (with_reducible repeat (first | refine blk_drewN ?_ _ | refine blk_drew ?_ | refine blk_alloc ?_ _)); exact BK291.out) hb); have n4_ := Aside0.mk (below_step (by repeat (first | (with_reducible first | exact HB.out | apply below_alloc | apply pw_below_drewN | apply below_drew1 | refine below_set ?_ GE282.out | refine below_set ?_ GE283.out | refine below_set ?_ GE287.out | refine below_set ?_ GE291.out) | exact HB.out)) hb); clear BK282; clear BK283; clear BK287; clear BK291; clear HB; have BK282 := n0_; have BK283 := n1_; have BK287 := n2_; have BK291 := n3_; have HB := n4_; clear n0_ n1_ n2_ n3_ n4_; (try clear hb); (try clear hb2); (try clear hk); (try clear hi)))
                            go_ret
                            exact ⟨by first | rfl | (simp [errW_none, errW_some] <;> rfl) | (simp [*, errW_none, errW_some] <;> rfl), by repeat (first | (with_reducible first | exact HB.out | apply below_alloc | apply pw_below_drewN | apply below_drew1 | refine below_set ?_ GE282.out | refine below_set ?_ GE283.out | refine below_set ?_ GE287.out | refine below_set ?_ GE291.out) | exact HB.out)⟩

/-- THE PURE STATEMENT of hushlaw1_RatioReckons. -/
def hushlaw1_RatioReckons.Pure : Prop := ∀ (p0 : S23) (p1 : S23), ((Lit.int .i64 p0.f0).wf = true ∧ (Lit.int .i64 p0.f1).wf = true) → ((Lit.int .i64 p1.f0).wf = true ∧ (Lit.int .i64 p1.f1).wf = true) → ∃ k, hushlaw1_RatioReckons.f k p0.f0 p0.f1 p1.f0 p1.f1 = some true

end Go.Proofs.Ytnlkacmkakgaoaa.PA

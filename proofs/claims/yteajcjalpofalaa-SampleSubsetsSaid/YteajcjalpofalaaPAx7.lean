
/- Functions of the program in Lean, by wip/xprint.py. Conditions: in each theorem. -/
import Derived.Test.YteajcjalpofalaaPAxs
import Derived.Test.YteajcjalpofalaaPAx0
import Derived.Test.YteajcjalpofalaaPAx2
import Derived.Test.YteajcjalpofalaaPAx6
namespace Go.Proofs.Yteajcjalpofalaa.PA
open Go.RowKit Go.Proofs.YteajcjalpofalaaW.PrintWords Go.Proofs.YteajcjalpofalaaW.PrintLast Go.Proofs.YteajcjalpofalaaW.PrintMore
attribute [local go_sem] max2_int min2_int max_two min_two max_three min_three max_four min_four   -- for this text's walks alone
set_option linter.unusedVariables false
set_option linter.unusedSimpArgs false

/-! ### sample_Subsets: function 5 -/
mutual
def sample_Subsets.j0 : Nat → Int → Bool → Int → Int → Option ((List (S56)) × Int)
 | 0, _, _, _, _ => none
 | k + 1, x1, x25, x132000, x132001 => if x25 = true then (some (([] : List (S56)), 5)) else (sample_Subsets.l0 k x1 1 x1 0 x132000 x132001)
def sample_Subsets.l0 : Nat → Int → Int → Int → Int → Int → Int → Option ((List (S56)) × Int)
 | 0, _, _, _, _, _, _ => none
 | k + 1, x1, x7, x26, x27, x132000, x132001 => if x27 < x26 then (if (wrap64 (x7 * x132001)) > 1073741824 then (some (([] : List (S56)), 4)) else (sample_Subsets.l0 k x1 (wrap64 (x7 * x132001)) x26 (wrap64 (x27 + 1)) x132000 x132001)) else (sample_Subsets.l1 k (([1] : List Int)) x1 0 x132000 x132001)
def sample_Subsets.l1 : Nat → List Int → Int → Int → Int → Int → Option ((List (S56)) × Int)
 | 0, _, _, _, _, _ => none
 | k + 1, x8, x37, x38, x132000, x132001 => if x38 < x37 then (sample_Subsets.l2 k x8 ([] : List Int) x37 x38 (x8.length : Int) 0 x132000 x132001) else (sample_Subsets.l3 k ([] : List (S56)) x8 (x8.length : Int) 0)
def sample_Subsets.l2 : Nat → List Int → List Int → Int → Int → Int → Int → Int → Int → Option ((List (S56)) × Int)
 | 0, _, _, _, _, _, _, _, _ => none
 | k + 1, x8, x9, x37, x38, x41, x42, x132000, x132001 => if x42 < x41 then (if 0 ≤ x42 then (if x42 < (x8.length : Int) then (if x9.length < 17592186044416 then (sample_Subsets.l2 k (x8.set (x42 : Int).toNat (wrap64 ((rd x8 x42) * (wrap64 (x132001 - x132000))))) (x9 ++ [wrap64 ((rd x8 x42) * x132000)]) x37 x38 x41 (wrap64 (x42 + 1)) x132000 x132001) else (none)) else (none)) else (none)) else (if x8.length + x9.length < 17592186044416 then (sample_Subsets.l1 k (x8 ++ x9) x37 (wrap64 (x38 + 1)) x132000 x132001) else (none))
def sample_Subsets.l3 : Nat → List (S56) → List Int → Int → Int → Option ((List (S56)) × Int)
 | 0, _, _, _, _ => none
 | k + 1, x12, x69, x70, x71 => if x71 < x70 then (if 0 ≤ x71 then (if x71 < (x69.length : Int) then (if x12.length < 4398046511104 then (sample_Subsets.l3 k (x12 ++ [(⟨(([x71] : List Int)), rd x69 x71⟩ : S56)]) x69 x70 (wrap64 (x71 + 1))) else (none)) else (none)) else (none)) else ((dist_Make.f k x12).bind fun bt151 => (some (bt151.1, bt151.2)))
end
def sample_Subsets.f (k : Nat) (a0_0 : Int) (a0_1 : Int) (a1 : Int) : Option ((List (S56)) × Int) := (sample_chance.f k a0_0 a0_1).bind fun t132 => (if t132 = 0 then (if a1 < 0 then (sample_Subsets.j0 k a1 true a0_0 a0_1) else (sample_Subsets.j0 k a1 (decide (a1 > 10)) a0_0 a0_1)) else (some (([] : List (S56)), t132)))
theorem sample_Subsets.mono_l : ∀ k, (∀ y0 y1 y2 y3, LeO (sample_Subsets.j0 k y0 y1 y2 y3) (sample_Subsets.j0 (k + 1) y0 y1 y2 y3)) ∧ (∀ y0 y1 y2 y3 y4 y5, LeO (sample_Subsets.l0 k y0 y1 y2 y3 y4 y5) (sample_Subsets.l0 (k + 1) y0 y1 y2 y3 y4 y5)) ∧ (∀ y0 y1 y2 y3 y4, LeO (sample_Subsets.l1 k y0 y1 y2 y3 y4) (sample_Subsets.l1 (k + 1) y0 y1 y2 y3 y4)) ∧ (∀ y0 y1 y2 y3 y4 y5 y6 y7, LeO (sample_Subsets.l2 k y0 y1 y2 y3 y4 y5 y6 y7) (sample_Subsets.l2 (k + 1) y0 y1 y2 y3 y4 y5 y6 y7)) ∧ (∀ y0 y1 y2 y3, LeO (sample_Subsets.l3 k y0 y1 y2 y3) (sample_Subsets.l3 (k + 1) y0 y1 y2 y3))
 | 0 => ⟨fun _ _ _ _ r h => by simp [sample_Subsets.j0] at h, fun _ _ _ _ _ _ r h => by simp [sample_Subsets.l0] at h, fun _ _ _ _ _ r h => by simp [sample_Subsets.l1] at h, fun _ _ _ _ _ _ _ _ r h => by simp [sample_Subsets.l2] at h, fun _ _ _ _ r h => by simp [sample_Subsets.l3] at h⟩
 | k + 1 => by
  obtain ⟨ih0, ih1, ih2, ih3, ih4⟩ := sample_Subsets.mono_l k
  refine ⟨?_, ?_, ?_, ?_, ?_⟩
  ·
   intro y0 y1 y2 y3
   unfold sample_Subsets.j0
   repeat' first
   | (with_reducible exact ih1 _ _ _ _ _ _)
   | (with_reducible exact LeO.refl _)
   | (with_reducible refine LeO.ite ?_ ?_)
  ·
   intro y0 y1 y2 y3 y4 y5
   unfold sample_Subsets.l0
   repeat' first
   | (with_reducible exact ih1 _ _ _ _ _ _)
   | (with_reducible exact ih2 _ _ _ _ _)
   | (with_reducible exact LeO.refl _)
   | (with_reducible refine LeO.ite ?_ ?_)
  ·
   intro y0 y1 y2 y3 y4
   unfold sample_Subsets.l1
   repeat' first
   | (with_reducible exact ih3 _ _ _ _ _ _ _ _)
   | (with_reducible exact ih4 _ _ _ _)
   | (with_reducible refine LeO.ite ?_ ?_)
  ·
   intro y0 y1 y2 y3 y4 y5 y6 y7
   unfold sample_Subsets.l2
   repeat' first
   | (with_reducible exact ih2 _ _ _ _ _)
   | (with_reducible exact ih3 _ _ _ _ _ _ _ _)
   | (with_reducible exact LeO.refl _)
   | (with_reducible refine LeO.ite ?_ ?_)
  ·
   intro y0 y1 y2 y3
   unfold sample_Subsets.l3
   repeat' first
   | (with_reducible exact ih4 _ _ _ _)
   | (with_reducible exact dist_Make.mono _ _)
   | (with_reducible exact LeO.refl _)
   | (with_reducible refine LeO.ite ?_ ?_)
   | (with_reducible refine LeO.bind ?_ (fun _ => ?_))
theorem sample_Subsets.mono : ∀ a0 a1 a2 k, LeO (sample_Subsets.f k a0 a1 a2) (sample_Subsets.f (k + 1) a0 a1 a2) := by
 intro a0 a1 a2 k
 obtain ⟨ih0, ih1, ih2, ih3, ih4⟩ := sample_Subsets.mono_l k
 unfold sample_Subsets.f
 repeat' first
   | (with_reducible exact ih0 _ _ _ _)
   | (with_reducible exact sample_chance.mono _ _ _)
   | (with_reducible exact LeO.refl _)
   | (with_reducible refine LeO.ite ?_ ?_)
   | (with_reducible refine LeO.bind ?_ (fun _ => ?_))
set_option maxHeartbeats 8000000 in
set_option maxRecDepth 100000 in
theorem sample_Subsets.calls (k : Nat) (a0_0 : Int) (a0_1 : Int) (a1 : Int) (r1 : List (S56)) (r2 : Int) (w : World) (h : sample_Subsets.f k a0_0 a0_1 a1 = some (r1, r2)) :
  Calls Try.prog 5 #[.agg #[.int .i64 a0_0, .int .i64 a0_1], .int .i64 a1] w fun e w' => ∃ v0_ : Value, e = .returned (.tuple #[v0_, .int .i64 r2]) ∧ Kd.N k56 56 w' w.heap.size (fun k_ => (w.heap.size ≤ k_)) v0_ r1 ∧ Below w.heap.size w w' := by
 have hu23 := Try.underlying23
 have hu56 := Try.underlying56
 have HB := Aside0.mk (Below.refl w.heap.size w)
 have H : ((sample_chance.f k a0_0 a0_1).bind fun t132 => (if t132 = 0 then (if a1 < 0 then (sample_Subsets.j0 k a1 true a0_0 a0_1) else (sample_Subsets.j0 k a1 (decide (a1 > 10)) a0_0 a0_1)) else (some (([] : List (S56)), t132)))) = some (r1, r2) := h
 clear h
 obtain ⟨t132, A3, H⟩ := bnd_ H
 by_cases c4 : t132 = 0
 ·
  rw [if_pos c4] at H
  have c4b0 : (t132 == 0) = true := beq_iff_eq.mpr c4
  have c4b1 : (t132 != 0) = false := bne_eq_false_iff_eq.mpr c4
  clear c4
  have HC5 := Aside0.mk H
  clear H
  go_enter Try.func5, Try.ntmps5
  go_upto_region 4 with (first | ((with_reducible refine gate_dst (N := 2) rfl ?_); refine box_event ?hg (N := 2) ?hd (cs := #[.int .i64 a0_0, .int .i64 a0_1]) (t := 23) ?hr ?_; (case hd | hg => rfl); (case hr => go_simp; done); intro gb131 hg w6 hbox hb; have BK131 := Aside0.mk (hbox); have GW131 := gw_ HB.out hg; have GE131 := gw_ HB.out hg; replace HB := Aside0.mk (below_step HB.out hb); clear hb hbox hg; have hcz7_0 := cz0_ BK131; have hcz7_1 := cz1_ BK131; have hfz7_0 := blk_frozen BK131.out 0; have hfz7_1 := blk_frozen BK131.out 1) | ((with_reducible refine gate_callee (f := 17) rfl ?_); refine goesL_ (some 16) rfl rfl Try.func17 (by kernel_rfl) rfl #[.agg #[.int .i64 a0_0, .int .i64 a0_1]] rfl (by (try simp only [List.map_toArray, List.map_cons, List.map_nil]); rfl) ?_; (with_reducible refine (sample_chance.calls k a0_0 a0_1 t132 _ A3.out).mono ?_); rintro e w8 ⟨rfl, hb⟩; refine ⟨_, rfl, ?_⟩; replace BK131 := Aside0.mk (blk_below (g := gb131) (o := .cells #[.int .i64 a0_0, .int .i64 a0_1] 23 (0, 0)) (by (with_reducible repeat (first | refine blk_drewN ?_ _ | refine blk_drew ?_ | refine blk_alloc ?_ _)); exact BK131.out) hb); replace HB := Aside0.mk (below_step HB.out hb); (try clear hb)))
  go_cut [25] (fun v25 wc => ∃ (kq : Nat) (x25_4 : Bool), v25 = .bool x25_4 ∧ Aside0 (sample_Subsets.j0 kq a1 x25_4 a0_0 a0_1 = some (r1, r2)) ∧ Aside0 (kq ≤ k) ∧ Aside0 (wc.heap[gb131]? = some (.cells #[.int .i64 a0_0, .int .i64 a0_1] 23 (0, 0))) ∧ Aside0 (Below w.heap.size w wc))
  case first =>
   have H := HC5.out
   clear HC5
   by_cases c9 : a1 < 0
   ·
    rw [if_pos c9] at H
    have c9b0 : decide (a1 < 0) = true := decide_eq_true c9
    clear c9
    have H' := Aside0.mk H
    clear H
    go_wp2
    go_meet
    case rel => exact ⟨_, (true), rfl, H', ⟨by omega⟩, ⟨by (with_reducible repeat (first | refine blk_drewN ?_ _ | refine blk_drew ?_ | refine blk_alloc ?_ _)); exact BK131.out⟩, ⟨HB.out⟩⟩
   ·
    rw [if_neg c9] at H
    have c9b0 : decide (a1 < 0) = false := decide_eq_false c9
    clear c9
    have H' := Aside0.mk H
    clear H
    go_wp2
    go_meet
    case rel => exact ⟨_, (decide (a1 > 10)), rfl, H', ⟨by omega⟩, ⟨by (with_reducible repeat (first | refine blk_drewN ?_ _ | refine blk_drew ?_ | refine blk_alloc ?_ _)); exact BK131.out⟩, ⟨HB.out⟩⟩
  case rest =>
   clear HC5
   try clear c4b0
   try clear c4b1
   try clear hcz7_0
   try clear hcz7_1
   try clear hfz7_0
   try clear hfz7_1
   obtain ⟨kq, x25_4, rfl, HA, HJ4, BK131, HB⟩ := hcut
   cases kq with
   | zero => exact absurd HA.out (by simp [sample_Subsets.j0])
   | succ kj4 =>
    have H := HA.out
    clear HA
    simp only [sample_Subsets.j0] at H
    by_cases c10 : x25_4 = true
    ·
     subst c10
     rw [if_pos rfl] at H
     simp only [Option.some.injEq, Prod.mk.injEq] at H
     obtain ⟨rfl, rfl⟩ := H
     go_wp2
     go_ret2
     exact ⟨_, rfl, by exact Kd.N_nil _ _ _ _ _, HB.out⟩
    ·
     replace c10 := Bool.eq_false_iff.mpr c10
     subst c10
     rw [if_neg (show ¬ (false = true) by decide)] at H
     have H' := Aside0.mk H
     clear H
     go_wp2
     go_loopg [7, 27] kj4 (fun kq v7 v27 w' => ∃ (x7_2 : Int) (x27_2 : Int), v7 = .int .i64 x7_2 ∧ v27 = .int .i64 x27_2 ∧ Aside0 (sample_Subsets.l0 kq a1 x7_2 a1 x27_2 a0_0 a0_1 = some (r1, r2)) ∧ Aside0 (kq ≤ kj4) ∧ Aside0 (w'.heap[gb131]? = some (.cells #[.int .i64 a0_0, .int .i64 a0_1] 23 (0, 0))) ∧ Aside0 (Below w.heap.size w w'))
     case atStart => exact ⟨(1), (0), rfl, rfl, H', ⟨Nat.le_refl _⟩, ⟨by (with_reducible repeat (first | refine blk_drewN ?_ _ | refine blk_drew ?_ | refine blk_alloc ?_ _)); exact BK131.out⟩, ⟨HB.out⟩⟩
     case round =>
      clear H'
      obtain ⟨x7_2, x27_2, rfl, rfl, HA, HK2, BK131, HB⟩ := hrel
      cases gk with
      | zero => exact absurd HA.out (by simp [sample_Subsets.l0])
      | succ k2 =>
       have H := HA.out
       clear HA
       simp only [sample_Subsets.l0] at H
       by_cases c11 : x27_2 < a1
       ·
        rw [if_pos c11] at H
        have c11b0 : decide (x27_2 < a1) = true := decide_eq_true c11
        clear c11
        by_cases c12 : (wrap64 (x7_2 * a0_1)) > 1073741824
        ·
         rw [if_pos c12] at H
         have c12b0 : decide (1073741824 < (wrap64 (x7_2 * a0_1))) = true := decide_eq_true c12
         clear c12
         simp only [Option.some.injEq, Prod.mk.injEq] at H
         obtain ⟨rfl, rfl⟩ := H
         have hcz13_0 := cz0_ BK131
         have hcz13_1 := cz1_ BK131
         have hfz13_0 := blk_frozen BK131.out 0
         have hfz13_1 := blk_frozen BK131.out 1
         go_wp2
         go_ret2
         exact ⟨_, rfl, by exact Kd.N_nil _ _ _ _ _, HB.out⟩
        ·
         rw [if_neg c12] at H
         have c12b0 : decide (1073741824 < (wrap64 (x7_2 * a0_1))) = false := decide_eq_false c12
         clear c12
         have H' := Aside0.mk H
         clear H
         have hcz14_0 := cz0_ BK131
         have hcz14_1 := cz1_ BK131
         have hfz14_0 := blk_frozen BK131.out 0
         have hfz14_1 := blk_frozen BK131.out 1
         go_wp2
         go_roundg k2
         case measure => have := HJ4.out; have := HK2.out; omega
         case rel => exact ⟨(wrap64 (x7_2 * a0_1)), (wrap64 (x27_2 + 1)), rfl, rfl, H', ⟨by have := HJ4.out; have := HK2.out; omega⟩, ⟨by (with_reducible repeat (first | refine blk_drewN ?_ _ | refine blk_drew ?_ | refine blk_alloc ?_ _)); exact BK131.out⟩, ⟨HB.out⟩⟩
       ·
        rw [if_neg c11] at H
        have c11b0 : decide (x27_2 < a1) = false := decide_eq_false c11
        clear c11
        obtain ⟨y133, hy133⟩ : ∃ y_ : List Int, y_ = (([1] : List Int)) := ⟨_, rfl⟩
        replace H : (sample_Subsets.l1 k2 y133 a1 0 a0_0 a0_1) = some (r1, r2) := by (rw [hy133]; with_reducible exact H)
        have Ny133 := Aside0.mk hy133
        clear hy133
        have H' := Aside0.mk H
        clear H
        go_wp2_with (((with_reducible refine gate_dst (N := 36) rfl ?_); refine Kd.R_lit (Kd.int .i64) _ 3 ?hg (N := 36) ?hd (xs := ([1] : List Int)) (inner := [.int .i64 1]) (ok := fun _ => True) (okp := fun _ => True) ?hr ?hp (fun _ hk => hk) trivial (Below.refl _ _) (Nat.le_refl _) (by simp) ?_; (case hd | hg => rfl); (case hr => go_simp; done); (case hp => exact (Reps.one (show Kd.M (Kd.int .i64) _ _ _ 1 [.int .i64 1] from rfl) (Reps.none _ _))); intro v134 w15 ho16 hb hg_ hnew_; clear hg_ hnew_; (rw [← Ny133.out] at ho16); have HO135 := Aside0.mk (Kd.R_lower (Kd.R_newM (M := fun k_ => (w.heap.size ≤ k_)) ho16 (below_size HB.out) (fun k_ h_ => h_)) (below_size HB.out)); replace BK131 := Aside0.mk (blk_below (g := gb131) (o := .cells #[.int .i64 a0_0, .int .i64 a0_1] 23 (0, 0)) (by (with_reducible repeat (first | refine blk_drewN ?_ _ | refine blk_drew ?_ | refine blk_alloc ?_ _)); exact BK131.out) hb); replace HB := Aside0.mk (below_step HB.out hb); clear hb ho16))
        go_loopg [8, 38] k2 (fun kq v8 v38 w' => ∃ (x8_3 : List Int) (x38_3 : Int), v38 = .int .i64 x38_3 ∧ Aside0 (sample_Subsets.l1 kq x8_3 a1 x38_3 a0_0 a0_1 = some (r1, r2)) ∧ Aside0 (kq ≤ k2) ∧ Aside0 (Kd.R (Kd.int .i64) 3 w' w.heap.size (fun k_ => (w.heap.size ≤ k_)) v8 x8_3) ∧ Aside0 (w'.heap[gb131]? = some (.cells #[.int .i64 a0_0, .int .i64 a0_1] 23 (0, 0))) ∧ Aside0 (Below w.heap.size w w'))
        case atStart => exact ⟨(y133), (0), rfl, H', ⟨Nat.le_refl _⟩, ⟨by (with_reducible repeat (first | apply Kd.R_alloc | apply Kd.R_drewN | apply Kd.R_drew)); exact Kd.R_mono HO135.out (fun _ hk => hk.1)⟩, ⟨by (with_reducible repeat (first | refine blk_drewN ?_ _ | refine blk_drew ?_ | refine blk_alloc ?_ _)); exact BK131.out⟩, ⟨HB.out⟩⟩
        case round =>
         clear H'
         try clear c11b0
         obtain ⟨x8_3, x38_3, rfl, HA, HK3, HO_8, BK131, HB⟩ := hrel
         cases gk with
         | zero => exact absurd HA.out (by simp [sample_Subsets.l1])
         | succ k3 =>
          have H := HA.out
          clear HA
          simp only [sample_Subsets.l1] at H
          by_cases c17 : x38_3 < a1
          ·
           rw [if_pos c17] at H
           have c17b0 : decide (x38_3 < a1) = true := decide_eq_true c17
           clear c17
           have H' := Aside0.mk H
           clear H
           obtain ⟨Ao18, co18, eo18⟩ := Kd.R_slice HO_8.out
           subst eo18
           go_wp2
           go_loopg [9, 42] k3 (fun kq v9 v42 w' => ∃ (x8_4 : List Int) (x9_4 : List Int) (x42_4 : Int), v42 = .int .i64 x42_4 ∧ Aside0 (sample_Subsets.l2 kq x8_4 x9_4 a1 x38_3 (x8_3.length : Int) x42_4 a0_0 a0_1 = some (r1, r2)) ∧ Aside0 (kq ≤ k3) ∧ Aside0 (Kd.R (Kd.int .i64) 3 w' w.heap.size (fun k_ => (w.heap.size ≤ k_) ∧ some k_ ≠ (v9 : Value).ownBlock) (.slice Ao18 x8_3.length co18) x8_4) ∧ Aside0 (Kd.R (Kd.int .i64) 3 w' w.heap.size (fun k_ => (w.heap.size ≤ k_) ∧ some k_ ≠ ((.slice Ao18 x8_3.length co18) : Value).ownBlock) v9 x9_4) ∧ Aside0 (w'.heap[gb131]? = some (.cells #[.int .i64 a0_0, .int .i64 a0_1] 23 (0, 0))) ∧ Aside0 (Below w.heap.size w w'))
           case atStart => exact ⟨(x8_3), (([] : List Int)), (0), rfl, H', ⟨Nat.le_refl _⟩, ⟨by (with_reducible repeat (first | apply Kd.R_alloc | apply Kd.R_drewN | apply Kd.R_drew)); exact Kd.R_mono HO_8.out (fun _ hk => ⟨hk, (by simp [Value.ownBlock])⟩)⟩, ⟨by exact Kd.R_nil _ _ _ _ _⟩, ⟨by (with_reducible repeat (first | refine blk_drewN ?_ _ | refine blk_drew ?_ | refine blk_alloc ?_ _)); exact BK131.out⟩, ⟨HB.out⟩⟩
           case round =>
            clear H'
            try clear c17b0
            obtain ⟨x8_4, x9_4, x42_4, rfl, HA, HK4, HO_8, HO_9, BK131, HB⟩ := hrel
            have hl8_4 := (Kd.R_reads' HO_8.out).1
            rw [hl8_4] at HO_8
            (try simp only [hl8_4])
            (try simp only [hl8_4] at HO_9)
            cases gk with
            | zero => exact absurd HA.out (by simp [sample_Subsets.l2])
            | succ k4 =>
             have H := HA.out
             clear HA
             simp only [sample_Subsets.l2] at H
             by_cases c19 : x42_4 < (x8_3.length : Int)
             ·
              rw [if_pos c19] at H
              have c19b0 : decide (x42_4 < (x8_3.length : Int)) = true := decide_eq_true c19
              clear c19
              by_cases c20 : 0 ≤ x42_4
              ·
               rw [if_pos c20] at H
               have c20b0 : decide (0 ≤ x42_4) = true := decide_eq_true c20
               clear c20
               by_cases c21 : x42_4 < (x8_4.length : Int)
               ·
                rw [if_pos c21] at H
                have c21b0 : decide (x42_4 < (x8_4.length : Int)) = true := decide_eq_true c21
                clear c21
                obtain ⟨y137, hy137⟩ : ∃ y_ : List Int, y_ = (x8_4.set (x42_4 : Int).toNat (wrap64 ((rd x8_4 x42_4) * (wrap64 (a0_1 - a0_0))))) := ⟨_, rfl⟩
                replace H : (if x9_4.length < 17592186044416 then (sample_Subsets.l2 k4 y137 (x9_4 ++ [wrap64 ((rd x8_4 x42_4) * a0_0)]) a1 x38_3 (x8_3.length : Int) (wrap64 (x42_4 + 1)) a0_0 a0_1) else (none)) = some (r1, r2) := by (rw [hy137]; with_reducible exact H)
                have Ny137 := Aside0.mk hy137
                clear hy137
                by_cases c23 : x9_4.length < 17592186044416
                ·
                 rw [if_pos c23] at H
                 have LMc23 := Aside0.mk c23
                 clear c23
                 obtain ⟨y138, hy138⟩ : ∃ y_ : List Int, y_ = (x9_4 ++ [wrap64 ((rd x8_4 x42_4) * a0_0)]) := ⟨_, rfl⟩
                 replace H : (sample_Subsets.l2 k4 y137 y138 a1 x38_3 (x8_3.length : Int) (wrap64 (x42_4 + 1)) a0_0 a0_1) = some (r1, r2) := by (rw [hy138]; with_reducible exact H)
                 have Ny138 := Aside0.mk hy138
                 clear hy138
                 have H' := Aside0.mk H
                 clear H
                 have p136 : 0 ≤ (x42_4 : Int) := of_decide_eq_true (by (with_reducible assumption))
                 have q136 : x42_4 < (x8_4.length : Int) := of_decide_eq_true (by (with_reducible assumption))
                 obtain ⟨ad136, e136, hx136_0⟩ := Kd.at_int (Kd.R_reads' HO_8.out).2.2 x42_4 p136 q136
                 cases e136
                 replace p136 := eq_true p136
                 replace q136 := eq_true q136
                 have hcz24_0 := cz0_ BK131
                 have hcz24_1 := cz1_ BK131
                 have hfz24_0 := blk_frozen BK131.out 0
                 have hfz24_1 := blk_frozen BK131.out 1
                 have p22 : 0 ≤ (x42_4 : Int) := of_decide_eq_true (by (with_reducible assumption))
                 have q22 : (x42_4 : Int) < ((x8_4.length : Int) : Int) := of_decide_eq_true (by (with_reducible assumption))
                 obtain ⟨go22, co22, eo22, gb22, gl22, cl22, HG22⟩ := Kd.R_form HO_8.out (by omega)
                 (cases eo22)
                 have GB22 := Aside0.mk gb22
                 have GG22 := Aside0.mk HG22
                 clear gb22 gl22 HG22
                 (simp only [add_plain] at hx136_0)
                 obtain ⟨hx22_0, hf22_0⟩ := Kd.R_celln 0 HO_8.out (x42_4 : Int) p22 q22
                 replace p22 := eq_true p22
                 replace q22 := eq_true q22
                 have HP25 := Kd.R_putg HO_8.out (x42_4 : Int) (wrap64 ((rd x8_4 x42_4) * (wrap64 (a0_1 - a0_0))))
                 go_wp2_with (first | ((with_reducible refine gate_store (t := 3) (p := 56) rfl ?_); refine store_event (t := 3) (p := 56) (v := ?vo_w26) (w1 := (wr.setCell ⟨go22, (x42_4 : Int).toNat, none⟩ (.int .i64 (wrap64 ((rd x8_4 x42_4) * (wrap64 (a0_1 - a0_0))))))) ?hg ?ho ?hn ?hr ?_; (case ho => rfl); (case hg => rfl); (case hn => rfl); (case hr => go_simp; done); intro w26 hw; have hg : wr.grownBy w26 (some go22) := (by rw [hw]; exact HP25.2); have hp_ : Kd.R (Kd.int .i64) 3 w26 w.heap.size (fun k_ => (w.heap.size ≤ k_) ∧ some k_ ≠ (u9 : Value).ownBlock) (.slice (some ⟨go22, 0, none⟩) x8_4.length co18) y137 := (by rw [hw, Ny137.out]; exact HP25.1); clear HP25; replace HO_9 := Aside0.mk (Kd.R_after (v := (.slice (some ⟨go22, 0, none⟩) x8_4.length co18)) (v1 := (.slice (some ⟨go22, 0, none⟩) x8_4.length co18)) (ok := (fun k_ => (w.heap.size ≤ k_))) (by (with_reducible repeat (first | apply Kd.R_alloc | apply Kd.R_drewN | apply Kd.R_drew)); exact HO_9.out) hg (.inl rfl)); replace BK131 := Aside0.mk (blk_grown (g := gb131) (o := .cells #[.int .i64 a0_0, .int .i64 a0_1] 23 (0, 0)) (by (with_reducible repeat (first | refine blk_drewN ?_ _ | refine blk_drew ?_ | refine blk_alloc ?_ _)); exact BK131.out) hg (Kd.R_ne HO_8.out BK131.out (by decide))); replace HO_8 := Aside0.mk (hp_); replace HB := Aside0.mk ((by rw [hw]; exact below_set (HB.out) GB22.out : Below w.heap.size w w26)); clear hg hw hp_; have hcz27_0 := cz0_ BK131; have hcz27_1 := cz1_ BK131; have hfz27_0 := blk_frozen BK131.out 0; have hfz27_1 := blk_frozen BK131.out 1) | ((with_reducible refine gate_builtin (b := .append) (xs := #[.tmp 57, .tmp 62]) rfl ?_); at_builtin; refine Kd.R_append (Kd.int .i64) (w0 := w) w.heap.size rfl (.tmp 57) (.tmp 62) 54 3 (.int .i64 0) 8 rfl Try.underlying54 info3 rfl (by decide) (by omega) u9 x9_4 (wrap64 ((rd x8_4 x42_4) * a0_0)) [.int .i64 (wrap64 ((rd x8_4 x42_4) * a0_0))] (fun k_ => (w.heap.size ≤ k_) ∧ some k_ ≠ (.slice (some ⟨go22, 0, none⟩) x8_4.length co18 : Value).ownBlock) (fun _ => False) rfl rfl ?aP (fun _ hk => hk.elim) ?aF ?aO ?aB ?aS ?aL ?_; (case aP => exact rfl); (case aB => exact HB.out); (case aF => exact (fun k_ hk => ⟨(Nat.le_trans (below_size HB.out) hk), Kd.fresh' (Kd.R_lt (by (with_reducible repeat (first | apply Kd.R_alloc | apply Kd.R_drewN | apply Kd.R_drew)); exact HO_8.out)) k_ hk⟩)); (case aO => exact (by (with_reducible repeat (first | apply Kd.R_alloc | apply Kd.R_drewN | apply Kd.R_drew)); exact HO_9.out)); (case aS => exact (below_size HB.out)); (case aL => have := LMc23.out; omega); intro v139 w28 ho hb hg hat; rw [← Ny138.out] at ho; replace HO_8 := Aside0.mk (Kd.R_after (ok := (fun k_ => (w.heap.size ≤ k_))) (by (with_reducible repeat (first | apply Kd.R_alloc | apply Kd.R_drewN | apply Kd.R_drew)); exact HO_8.out) hg hat); replace BK131 := Aside0.mk (blk_grown (g := gb131) (o := .cells #[.int .i64 a0_0, .int .i64 a0_1] 23 (0, 0)) (by (with_reducible repeat (first | refine blk_drewN ?_ _ | refine blk_drew ?_ | refine blk_alloc ?_ _)); exact BK131.out) hg (Kd.R_ne HO_9.out BK131.out (by decide))); replace HB := Aside0.mk (hb); have HO140 := Aside0.mk (ho); clear HO_9; clear ho hb hg hat))
                 (try simp only [← hl8_4])
                 go_roundg k4
                 case measure => have := HJ4.out; have := HK2.out; have := HK3.out; have := HK4.out; omega
                 case rel => exact ⟨(y137), (y138), (wrap64 (x42_4 + 1)), rfl, H', ⟨by have := HJ4.out; have := HK2.out; have := HK3.out; have := HK4.out; omega⟩, ⟨by (try simp only [hl8_4]); (with_reducible repeat (first | apply Kd.R_alloc | apply Kd.R_drewN | apply Kd.R_drew)); exact HO_8.out⟩, ⟨by (try simp only [hl8_4]); (with_reducible repeat (first | apply Kd.R_alloc | apply Kd.R_drewN | apply Kd.R_drew)); exact HO140.out⟩, ⟨by (with_reducible repeat (first | refine blk_drewN ?_ _ | refine blk_drew ?_ | refine blk_alloc ?_ _)); exact BK131.out⟩, ⟨HB.out⟩⟩
                ·
                 rw [if_neg c23] at H
                 exact absurd H (by simp)
               ·
                rw [if_neg c21] at H
                exact absurd H (by simp)
              ·
               rw [if_neg c20] at H
               exact absurd H (by simp)
             ·
              rw [if_neg c19] at H
              have c19b0 : decide (x42_4 < (x8_3.length : Int)) = false := decide_eq_false c19
              rw [hl8_4] at c19b0
              clear c19
              by_cases c29 : x8_4.length + x9_4.length < 17592186044416
              ·
               rw [if_pos c29] at H
               have LMc29 := Aside0.mk c29
               clear c29
               obtain ⟨y141, hy141⟩ : ∃ y_ : List Int, y_ = (x8_4 ++ x9_4) := ⟨_, rfl⟩
               replace H : (sample_Subsets.l1 k4 y141 a1 (wrap64 (x38_3 + 1)) a0_0 a0_1) = some (r1, r2) := by (rw [hy141]; with_reducible exact H)
               have Ny141 := Aside0.mk hy141
               clear hy141
               have H' := Aside0.mk H
               clear H
               obtain ⟨Ao31, co31, eo31⟩ := Kd.R_slice HO_9.out
               subst eo31
               go_wp2_with (((with_reducible refine gate_builtin (b := .append) (xs := #[.tmp 65, .tmp 66]) rfl ?_); at_builtin; refine Kd.R_append_rows (Kd.int .i64) (w0 := w) w.heap.size rfl (.tmp 65) (.tmp 66) 54 3 (.int .i64 0) 8 rfl Try.underlying54 info3 rfl (by decide) (by omega) (.slice Ao18 x8_4.length co18) x8_4 x9_4 _ _ _ (fun k_ => (w.heap.size ≤ k_) ∧ some k_ ≠ (.slice Ao31 x9_4.length co31 : Value).ownBlock) (fun _ => False) rfl rfl ?aO ?aR (fun _ _ h => h) (fun _ h => h.elim) ?aF ?aB ?aS ?aL ?_; (case aR => repeat (exact (Kd.R_reads' HO_9.out).2.2)); (case aB => exact HB.out); (case aF => exact (fun k_ hk => ⟨(Nat.le_trans (below_size HB.out) hk), Kd.fresh' (Kd.R_lt (by (with_reducible repeat (first | apply Kd.R_alloc | apply Kd.R_drewN | apply Kd.R_drew)); exact HO_9.out)) k_ hk⟩)); (case aO => exact (by (with_reducible repeat (first | apply Kd.R_alloc | apply Kd.R_drewN | apply Kd.R_drew)); exact HO_8.out)); (case aS => exact (below_size HB.out)); (case aL => have := LMc29.out; omega); intro v142 w30 ho hb hg hat; rw [← Ny141.out] at ho; replace HO_9 := Aside0.mk (Kd.R_after (ok := (fun k_ => (w.heap.size ≤ k_))) (by (with_reducible repeat (first | apply Kd.R_alloc | apply Kd.R_drewN | apply Kd.R_drew)); exact HO_9.out) hg hat); replace BK131 := Aside0.mk (blk_grown (g := gb131) (o := .cells #[.int .i64 a0_0, .int .i64 a0_1] 23 (0, 0)) (by (with_reducible repeat (first | refine blk_drewN ?_ _ | refine blk_drew ?_ | refine blk_alloc ?_ _)); exact BK131.out) hg (Kd.R_ne HO_8.out BK131.out (by decide))); replace HB := Aside0.mk (hb); have HO143 := Aside0.mk (ho); clear HO_8; clear ho hb hg hat))
               (try simp only [← hl8_4])
               go_roundg k4
               case measure => have := HJ4.out; have := HK2.out; have := HK3.out; have := HK4.out; omega
               case rel => exact ⟨(y141), (wrap64 (x38_3 + 1)), rfl, H', ⟨by have := HJ4.out; have := HK2.out; have := HK3.out; have := HK4.out; omega⟩, ⟨by (with_reducible repeat (first | apply Kd.R_alloc | apply Kd.R_drewN | apply Kd.R_drew)); exact Kd.R_mono HO143.out (fun _ hk => hk.1)⟩, ⟨by (with_reducible repeat (first | refine blk_drewN ?_ _ | refine blk_drew ?_ | refine blk_alloc ?_ _)); exact BK131.out⟩, ⟨HB.out⟩⟩
              ·
               rw [if_neg c29] at H
               exact absurd H (by simp)
          ·
           rw [if_neg c17] at H
           have c17b0 : decide (x38_3 < a1) = false := decide_eq_false c17
           clear c17
           have H' := Aside0.mk H
           clear H
           obtain ⟨Ao32, co32, eo32⟩ := Kd.R_slice HO_8.out
           subst eo32
           go_wp2
           go_loopg [12, 71] k3 (fun kq v12 v71 w' => ∃ (x12_4 : List (S56)) (x71_4 : Int), v71 = .int .i64 x71_4 ∧ Aside0 (sample_Subsets.l3 kq x12_4 x8_3 (x8_3.length : Int) x71_4 = some (r1, r2)) ∧ Aside0 (kq ≤ k3) ∧ Aside0 (Kd.N k56 56 w' w.heap.size (fun k_ => (w.heap.size ≤ k_) ∧ some k_ ≠ ((.slice Ao32 x8_3.length co32) : Value).ownBlock ∧ k_ ≠ gb131) v12 x12_4) ∧ Aside0 (Kd.R (Kd.int .i64) 3 w' w.heap.size (fun k_ => (w.heap.size ≤ k_)) (.slice Ao32 x8_3.length co32) x8_3) ∧ Aside0 (w'.heap[gb131]? = some (.cells #[.int .i64 a0_0, .int .i64 a0_1] 23 (0, 0))) ∧ Aside0 (Below w.heap.size w w'))
           case atStart => exact ⟨(([] : List (S56))), (0), rfl, H', ⟨Nat.le_refl _⟩, ⟨by exact Kd.N_nil _ _ _ _ _⟩, ⟨by (with_reducible repeat (first | apply Kd.R_alloc | apply Kd.R_drewN | apply Kd.R_drew)); exact HO_8.out⟩, ⟨by (with_reducible repeat (first | refine blk_drewN ?_ _ | refine blk_drew ?_ | refine blk_alloc ?_ _)); exact BK131.out⟩, ⟨HB.out⟩⟩
           case round =>
            clear H'
            try clear c17b0
            obtain ⟨x12_4, x71_4, rfl, HA, HK4, HO_12, HO_69, BK131, HB⟩ := hrel
            cases gk with
            | zero => exact absurd HA.out (by simp [sample_Subsets.l3])
            | succ k4 =>
             have H := HA.out
             clear HA
             simp only [sample_Subsets.l3] at H
             by_cases c33 : x71_4 < (x8_3.length : Int)
             ·
              rw [if_pos c33] at H
              have c33b0 : decide (x71_4 < (x8_3.length : Int)) = true := decide_eq_true c33
              clear c33
              by_cases c34 : 0 ≤ x71_4
              ·
               rw [if_pos c34] at H
               have c34b0 : decide (0 ≤ x71_4) = true := decide_eq_true c34
               clear c34
               by_cases c35 : x71_4 < (x8_3.length : Int)
               ·
                rw [if_pos c35] at H
                have c35b0 : decide (x71_4 < (x8_3.length : Int)) = true := decide_eq_true c35
                clear c35
                obtain ⟨y145, hy145⟩ : ∃ y_ : List Int, y_ = (([x71_4] : List Int)) := ⟨_, rfl⟩
                replace H : (if x12_4.length < 4398046511104 then (sample_Subsets.l3 k4 (x12_4 ++ [(⟨y145, rd x8_3 x71_4⟩ : S56)]) x8_3 (x8_3.length : Int) (wrap64 (x71_4 + 1))) else (none)) = some (r1, r2) := by (rw [hy145]; with_reducible exact H)
                have Ny145 := Aside0.mk hy145
                clear hy145
                by_cases c36 : x12_4.length < 4398046511104
                ·
                 rw [if_pos c36] at H
                 have LMc36 := Aside0.mk c36
                 clear c36
                 obtain ⟨y148, hy148⟩ : ∃ y_ : List (S56), y_ = (x12_4 ++ [(⟨y145, rd x8_3 x71_4⟩ : S56)]) := ⟨_, rfl⟩
                 replace H : (sample_Subsets.l3 k4 y148 x8_3 (x8_3.length : Int) (wrap64 (x71_4 + 1))) = some (r1, r2) := by (rw [hy148]; with_reducible exact H)
                 have Ny148 := Aside0.mk hy148
                 clear hy148
                 have H' := Aside0.mk H
                 clear H
                 have p144 : 0 ≤ (x71_4 : Int) := of_decide_eq_true (by (with_reducible assumption))
                 have q144 : x71_4 < (x8_3.length : Int) := of_decide_eq_true (by (with_reducible assumption))
                 obtain ⟨ad144, e144, hx144_0⟩ := Kd.at_int (Kd.R_reads' HO_69.out).2.2 x71_4 p144 q144
                 cases e144
                 replace p144 := eq_true p144
                 replace q144 := eq_true q144
                 go_wp2_with (first | ((with_reducible refine gate_dst (N := 78) rfl ?_); refine Kd.R_lit (Kd.int .i64) _ 3 ?hg (N := 78) ?hd (xs := ([x71_4] : List Int)) (inner := [.int .i64 x71_4]) (ok := fun _ => True) (okp := fun _ => True) ?hr ?hp (fun _ hk => hk) trivial (Below.refl _ _) (Nat.le_refl _) (by simp) ?_; (case hd | hg => rfl); (case hr => go_simp; done); (case hp => exact (Reps.one (show Kd.M (Kd.int .i64) _ _ _ x71_4 [.int .i64 x71_4] from rfl) (Reps.none _ _))); intro v146 w37 ho38 hb hg_ hnew_; clear hg_ hnew_; (rw [← Ny145.out] at ho38); replace HO_12 := Aside0.mk (Kd.N_elder' (by (with_reducible repeat (first | apply Kd.N_alloc | apply Kd.N_drewN | apply Kd.N_drew)); exact HO_12.out) (Kd.R_base ho38) hb); have HO147 := Aside0.mk (Kd.R_lower (Kd.R_new' (Kd.R_newM (M := fun k_ => (w.heap.size ≤ k_)) ho38 (below_size HB.out) (fun k_ h_ => h_)) (Kd.R_lt (by (with_reducible repeat (first | apply Kd.R_alloc | apply Kd.R_drewN | apply Kd.R_drew)); exact HO_69.out))) (below_size HB.out)); replace HO_69 := Aside0.mk (Kd.R_elder' (by (with_reducible repeat (first | apply Kd.R_alloc | apply Kd.R_drewN | apply Kd.R_drew)); exact HO_69.out) (Kd.R_base ho38) hb); replace BK131 := Aside0.mk (blk_below (g := gb131) (o := .cells #[.int .i64 a0_0, .int .i64 a0_1] 23 (0, 0)) (by (with_reducible repeat (first | refine blk_drewN ?_ _ | refine blk_drew ?_ | refine blk_alloc ?_ _)); exact BK131.out) hb); replace HB := Aside0.mk (below_step HB.out hb); clear hb ho38; obtain ⟨Ao39, co39, eo39⟩ := Kd.R_slice HO147.out; subst eo39) | ((with_reducible refine gate_builtin (b := .append) (xs := #[.tmp 76, .tmp 81]) rfl ?_); at_builtin; refine Kd.N_append k56 (w0 := w) w.heap.size rfl (.tmp 76) (.tmp 81) 24 56 (.agg #[(.slice none 0 0), (.int .i64 0)]) 32 rfl Try.underlying24 info56 rfl (by decide) (by omega) u12 x12_4 (⟨y145, rd x8_3 x71_4⟩ : S56) [.slice Ao39 y145.length co39, .int .i64 (rd x8_3 x71_4)] (fun k_ => (w.heap.size ≤ k_) ∧ some k_ ≠ (.slice (some ad144) x8_3.length co32 : Value).ownBlock ∧ k_ ≠ gb131) (fun k_ => ((fun k_ => (w.heap.size ≤ k_) ∧ some k_ ≠ (.slice (some ad144) x8_3.length co32 : Value).ownBlock ∧ k_ ≠ gb131)) k_ ∧ some k_ ≠ (u12 : Value).ownBlock) rfl rfl ?aP (fun _ hk => hk) ?aF ?aO ?aB ?aS ?aL ?_; (case aP => exact (k56_mkF _ _ (⟨y145, rd x8_3 x71_4⟩ : S56) (Kd.R_reads' (Kd.R_mono (ok' := (fun k_ => ((fun k_ => (w.heap.size ≤ k_) ∧ some k_ ≠ (.slice (some ad144) x8_3.length co32 : Value).ownBlock ∧ k_ ≠ gb131)) k_ ∧ some k_ ≠ (u12 : Value).ownBlock)) (Kd.R_types (Kd.R_apart' (HO147.out) (Kd.N_typed HO_12.out) (by decide)) BK131.out (by decide)) (fun k_ hk => ⟨⟨hk.1.1.1.1, ⟨hk.1.1.2, hk.2⟩⟩, hk.1.2⟩))).2.1 (Kd.R_F (Kd.R_mono (ok' := (fun k_ => ((fun k_ => (w.heap.size ≤ k_) ∧ some k_ ≠ (.slice (some ad144) x8_3.length co32 : Value).ownBlock ∧ k_ ≠ gb131)) k_ ∧ some k_ ≠ (u12 : Value).ownBlock)) (Kd.R_types (Kd.R_apart' (HO147.out) (Kd.N_typed HO_12.out) (by decide)) BK131.out (by decide)) (fun k_ hk => ⟨⟨hk.1.1.1.1, ⟨hk.1.1.2, hk.2⟩⟩, hk.1.2⟩))))); (case aB => exact HB.out); (case aF => exact (fun k_ hk => ⟨(Nat.le_trans (below_size HB.out) hk), Kd.fresh' (Kd.R_lt (by (with_reducible repeat (first | apply Kd.R_alloc | apply Kd.R_drewN | apply Kd.R_drew)); exact HO_69.out)) k_ hk, Kd.freshB (g := gb131) (o := .cells #[.int .i64 a0_0, .int .i64 a0_1] 23 (0, 0)) (by (with_reducible repeat (first | refine blk_drewN ?_ _ | refine blk_drew ?_ | refine blk_alloc ?_ _)); exact BK131.out) k_ hk⟩)); (case aO => exact (by (with_reducible repeat (first | apply Kd.N_alloc | apply Kd.N_drewN | apply Kd.N_drew)); exact Kd.N_mono HO_12.out (fun _ hk => ⟨hk.1.1, ⟨hk.1.2.1, hk.1.2.2⟩⟩))); (case aS => exact (below_size HB.out)); (case aL => have := LMc36.out; omega); intro v149 w40 ho hb hg hat; rw [← Ny148.out] at ho; replace HO_69 := Aside0.mk (Kd.R_over' (by (with_reducible repeat (first | apply Kd.R_alloc | apply Kd.R_drewN | apply Kd.R_drew)); exact HO_69.out) (Kd.N_typed (by (with_reducible repeat (first | apply Kd.N_alloc | apply Kd.N_drewN | apply Kd.N_drew)); exact HO_12.out)) (by decide) hg); replace BK131 := Aside0.mk (blk_grown (g := gb131) (o := .cells #[.int .i64 a0_0, .int .i64 a0_1] 23 (0, 0)) (by (with_reducible repeat (first | refine blk_drewN ?_ _ | refine blk_drew ?_ | refine blk_alloc ?_ _)); exact BK131.out) hg (Kd.N_ne HO_12.out BK131.out (by decide))); replace HB := Aside0.mk (hb); have HO150 := Aside0.mk (ho); clear HO_12 HO147; clear ho hb hg hat))
                 go_roundg k4
                 case measure => have := HJ4.out; have := HK2.out; have := HK3.out; have := HK4.out; omega
                 case rel => exact ⟨(y148), (wrap64 (x71_4 + 1)), rfl, H', ⟨by have := HJ4.out; have := HK2.out; have := HK3.out; have := HK4.out; omega⟩, ⟨by (with_reducible repeat (first | apply Kd.N_alloc | apply Kd.N_drewN | apply Kd.N_drew)); exact HO150.out⟩, ⟨by (with_reducible repeat (first | apply Kd.R_alloc | apply Kd.R_drewN | apply Kd.R_drew)); exact Kd.R_mono HO_69.out (fun _ hk => hk.1)⟩, ⟨by (with_reducible repeat (first | refine blk_drewN ?_ _ | refine blk_drew ?_ | refine blk_alloc ?_ _)); exact BK131.out⟩, ⟨HB.out⟩⟩
                ·
                 rw [if_neg c36] at H
                 exact absurd H (by simp)
               ·
                rw [if_neg c35] at H
                exact absurd H (by simp)
              ·
               rw [if_neg c34] at H
               exact absurd H (by simp)
             ·
              rw [if_neg c33] at H
              have c33b0 : decide (x71_4 < (x8_3.length : Int)) = false := decide_eq_false c33
              clear c33
              obtain ⟨⟨t151, t154⟩, A41, H⟩ := bnd_ H
              dsimp only at H
              simp only [Option.some.injEq, Prod.mk.injEq] at H
              obtain ⟨rfl, rfl⟩ := H
              obtain ⟨Ao42, co42, eo42⟩ := Kd.N_slice HO_12.out
              subst eo42
              go_wp2_with (((with_reducible refine gate_callee (f := 18) rfl ?_); refine goesL_ (some 85) rfl rfl Try.func18 (by kernel_rfl) rfl #[.slice Ao42 x12_4.length co42] rfl (by (try simp only [List.map_toArray, List.map_cons, List.map_nil]); rfl) ?_; (with_reducible refine (dist_Make.calls k4 _ _ x12_4 t151 t154 _ ?side1 ?side2 A41.out).mono ?_); (case side1 => repeat (exact (Kd.N_reads' HO_12.out).2.2)); (case side2 => exact (Kd.N_reads' HO_12.out).2.1); rintro e w43 ⟨v152, rfl, ho0, hb⟩; refine ⟨_, rfl, ?_⟩; have HO153 := Aside0.mk (Kd.N_lower (Kd.N_mono (ok' := fun k_ => (w.heap.size ≤ k_) ∧ some k_ ≠ (.slice Ao42 x12_4.length co42 : Value).ownBlock ∧ some k_ ≠ (.slice Ao32 x8_3.length co32 : Value).ownBlock ∧ k_ ≠ gb131) ho0 (fun k_ hk_ => ⟨(Nat.le_trans (below_size HB.out) hk_), (Kd.fresh' (Kd.N_lt (by (with_reducible repeat (first | apply Kd.N_alloc | apply Kd.N_drewN | apply Kd.N_drew)); exact HO_12.out)) k_ hk_), (Kd.fresh' (Kd.R_lt (by (with_reducible repeat (first | apply Kd.R_alloc | apply Kd.R_drewN | apply Kd.R_drew)); exact HO_69.out)) k_ hk_), (Kd.freshB (g := gb131) (o := .cells #[.int .i64 a0_0, .int .i64 a0_1] 23 (0, 0)) (by (with_reducible repeat (first | refine blk_drewN ?_ _ | refine blk_drew ?_ | refine blk_alloc ?_ _)); exact BK131.out) k_ hk_)⟩)) (below_size HB.out)); replace HO_12 := Aside0.mk (Kd.N_elder' (by (with_reducible repeat (first | apply Kd.N_alloc | apply Kd.N_drewN | apply Kd.N_drew)); exact HO_12.out) (Kd.N_base ho0) hb); replace HO_69 := Aside0.mk (Kd.R_below (by (with_reducible repeat (first | apply Kd.R_alloc | apply Kd.R_drewN | apply Kd.R_drew)); exact HO_69.out) hb); replace BK131 := Aside0.mk (blk_below (g := gb131) (o := .cells #[.int .i64 a0_0, .int .i64 a0_1] 23 (0, 0)) (by (with_reducible repeat (first | refine blk_drewN ?_ _ | refine blk_drew ?_ | refine blk_alloc ?_ _)); exact BK131.out) hb); replace HB := Aside0.mk (below_step HB.out hb); (try clear hb); (try clear ho0)))
              go_ret2
              exact ⟨_, rfl, by (with_reducible repeat (first | apply Kd.N_alloc | apply Kd.N_drewN | apply Kd.N_drew)); exact Kd.N_mono HO153.out (fun _ hk => hk.1), HB.out⟩
 ·
  rw [if_neg c4] at H
  have c4b0 : (t132 == 0) = false := beq_eq_false_iff_ne.mpr c4
  have c4b1 : (t132 != 0) = true := bne_iff_ne.mpr c4
  simp only [Option.some.injEq, Prod.mk.injEq] at H
  obtain ⟨rfl, rfl⟩ := H
  go_enter Try.func5, Try.ntmps5
  go_wp2_with (first | ((with_reducible refine gate_dst (N := 2) rfl ?_); refine box_event ?hg (N := 2) ?hd (cs := #[.int .i64 a0_0, .int .i64 a0_1]) (t := 23) ?hr ?_; (case hd | hg => rfl); (case hr => go_simp; done); intro gb131 hg w44 hbox hb; have BK131 := Aside0.mk (hbox); have GW131 := gw_ HB.out hg; have GE131 := gw_ HB.out hg; replace HB := Aside0.mk (below_step HB.out hb); clear hb hbox hg; have hcz45_0 := cz0_ BK131; have hcz45_1 := cz1_ BK131; have hfz45_0 := blk_frozen BK131.out 0; have hfz45_1 := blk_frozen BK131.out 1) | ((with_reducible refine gate_callee (f := 17) rfl ?_); refine goesL_ (some 16) rfl rfl Try.func17 (by kernel_rfl) rfl #[.agg #[.int .i64 a0_0, .int .i64 a0_1]] rfl (by (try simp only [List.map_toArray, List.map_cons, List.map_nil]); rfl) ?_; (with_reducible refine (sample_chance.calls k a0_0 a0_1 t132 _ A3.out).mono ?_); rintro e w46 ⟨rfl, hb⟩; refine ⟨_, rfl, ?_⟩; replace BK131 := Aside0.mk (blk_below (g := gb131) (o := .cells #[.int .i64 a0_0, .int .i64 a0_1] 23 (0, 0)) (by (with_reducible repeat (first | refine blk_drewN ?_ _ | refine blk_drew ?_ | refine blk_alloc ?_ _)); exact BK131.out) hb); replace HB := Aside0.mk (below_step HB.out hb); (try clear hb)))
  go_ret2
  exact ⟨_, rfl, by exact Kd.N_nil _ _ _ _ _, HB.out⟩

end Go.Proofs.Yteajcjalpofalaa.PA


/- Functions of the program in Lean, by wip/xprint.py. Conditions: in each theorem. -/
import Derived.Test.YteajcjalpofalaaPAxs
import Derived.Test.YteajcjalpofalaaPAx0
import Derived.Test.YteajcjalpofalaaPAx2
import Derived.Test.YteajcjalpofalaaPAx3
import Derived.Test.YteajcjalpofalaaPAx5
namespace Go.Proofs.Yteajcjalpofalaa.PA
open Go.RowKit Go.Proofs.YteajcjalpofalaaW.PrintWords Go.Proofs.YteajcjalpofalaaW.PrintLast Go.Proofs.YteajcjalpofalaaW.PrintMore
attribute [local go_sem] max2_int min2_int max_two min_two max_three min_three max_four min_four   -- for this text's walks alone
set_option linter.unusedVariables false
set_option linter.unusedSimpArgs false

/-! ### dist_Make: function 18 -/
def dist_Make.l0 : Nat → List (S56) → List (S56) → Int → Int → Option ((List (S56)) × Int)
 | 0, _, _, _, _ => none
 | k + 1, x4, x7, x8, x9 => if x9 < x8 then (if 0 ≤ x9 then (if x9 < (x7.length : Int) then ((dist_small.f k ((rd_T56 x7 x9).f0)).bind fun t124 => (if t124 = true then (if ((rd_T56 x7 x9).f1) < 0 then (some (([] : List (S56)), 3)) else (if ((rd_T56 x7 x9).f1) > 1073741824 then (some (([] : List (S56)), 3)) else ((slices_Clone_int_int.f ((rd_T56 x7 x9).f0)).bind fun t125 => (if x4.length < 4398046511104 then (dist_Make.l0 k (x4 ++ [(⟨t125, (rd_T56 x7 x9).f1⟩ : S56)]) x7 x8 (wrap64 (x9 + 1))) else (none))))) else (some (([] : List (S56)), 3)))) else (none)) else (none)) else ((dist_tidy.f k x4).bind fun bt118 => (some (bt118.1, bt118.2)))
def dist_Make.f (k : Nat) (l0 : List (S56)) : Option ((List (S56)) × Int) := dist_Make.l0 k ([] : List (S56)) l0 (l0.length : Int) 0
theorem dist_Make.mono_l : ∀ k, (∀ y0 y1 y2 y3, LeO (dist_Make.l0 k y0 y1 y2 y3) (dist_Make.l0 (k + 1) y0 y1 y2 y3))
 | 0 => fun _ _ _ _ r h => by simp [dist_Make.l0] at h
 | k + 1 => by
  have ih0 := dist_Make.mono_l k
  ·
   intro y0 y1 y2 y3
   unfold dist_Make.l0
   repeat' first
   | (with_reducible exact ih0 _ _ _ _)
   | (with_reducible exact dist_small.mono _ _)
   | (with_reducible exact dist_tidy.mono _ _)
   | (with_reducible exact LeO.refl _)
   | (with_reducible refine LeO.ite ?_ ?_)
   | (with_reducible refine LeO.bind ?_ (fun _ => ?_))
theorem dist_Make.mono : ∀ a0 k, LeO (dist_Make.f k a0) (dist_Make.f (k + 1) a0) := by
 intro a0 k
 have ih0 := dist_Make.mono_l k
 unfold dist_Make.f
 repeat' (with_reducible exact ih0 _ _ _ _)
def dist_Make.T7 : Bool × List (List Nat × List Nat) := (true, [([], []), ([], []), ([1], [1]), ([2], [2]), ([], []), ([4], [4]), ([3, 5], [3, 5]), ([6], [6]), ([0, 7, 3], [0, 7]), ([8, 8, 0, 1, 2, 3, 4, 5, 6, 7, 8], [0, 8])])
def dist_Make.B7 : List Nat := [0, 0, 2, 6, 0, 16, 62, 126, 255, 511]
theorem dist_Make.tab7 : rtab .any (opsOf Try.f18 7) = dist_Make.T7 := by kernel_rfl
theorem dist_Make.bits7 : waitsOk dist_Make.T7.2 dist_Make.B7 = true := by kernel_rfl
set_option maxHeartbeats 8000000 in
set_option maxRecDepth 100000 in
theorem dist_Make.calls (k : Nat) (A0 : Option Addr) (c0 : Nat) (l0 : List (S56)) (r1 : List (S56)) (r2 : Int) (w : World) (hr0 : Kd.C k56 w A0 l0.length l0) (hc0 : l0.length ≤ c0) (h : dist_Make.f k l0 = some (r1, r2)) :
  Calls Try.prog 18 #[.slice A0 l0.length c0] w fun e w' => ∃ v0_ : Value, e = .returned (.tuple #[v0_, .int .i64 r2]) ∧ Kd.N k56 56 w' w.heap.size (fun k_ => (w.heap.size ≤ k_)) v0_ r1 ∧ Below w.heap.size w w' := by
 have hu56 := Try.underlying56
 have HR0 := Aside0.mk hr0
 have HC0 := Aside0.mk hc0
 clear hr0 hc0
 have HB := Aside0.mk (Below.refl w.heap.size w)
 have H : (dist_Make.l0 k ([] : List (S56)) l0 (l0.length : Int) 0) = some (r1, r2) := h
 clear h
 have H' := Aside0.mk H
 clear H
 go_enter Try.func18, Try.ntmps18
 go_wp2
 go_loopg [4, 9] k (fun kq v4 v9 w' => ∃ (x4_1 : List (S56)) (x9_1 : Int), v9 = .int .i64 x9_1 ∧ Aside0 (dist_Make.l0 kq x4_1 l0 (l0.length : Int) x9_1 = some (r1, r2)) ∧ Aside0 (kq ≤ k) ∧ Aside0 (Kd.N k56 56 w' w.heap.size (fun k_ => (w.heap.size ≤ k_)) v4 x4_1) ∧ Aside0 (Below w.heap.size w w'))
 case atStart => exact ⟨(([] : List (S56))), (0), rfl, H', ⟨Nat.le_refl _⟩, ⟨by exact Kd.N_nil _ _ _ _ _⟩, ⟨HB.out⟩⟩
 case round =>
  clear H'
  obtain ⟨x4_1, x9_1, rfl, HA, HK1, HO_4, HB⟩ := hrel
  cases gk with
  | zero => exact absurd HA.out (by simp [dist_Make.l0])
  | succ k1 =>
   have H := HA.out
   clear HA
   simp only [dist_Make.l0] at H
   by_cases c2 : x9_1 < (l0.length : Int)
   ·
    rw [if_pos c2] at H
    have c2b0 : decide (x9_1 < (l0.length : Int)) = true := decide_eq_true c2
    clear c2
    by_cases c3 : 0 ≤ x9_1
    ·
     rw [if_pos c3] at H
     have c3b0 : decide (0 ≤ x9_1) = true := decide_eq_true c3
     clear c3
     by_cases c4 : x9_1 < (l0.length : Int)
     ·
      rw [if_pos c4] at H
      have c4b0 : decide (x9_1 < (l0.length : Int)) = true := decide_eq_true c4
      clear c4
      obtain ⟨t124, A5, H⟩ := bnd_ H
      by_cases c6 : t124 = true
      ·
       subst c6
       rw [if_pos rfl] at H
       by_cases c7 : ((rd_T56 l0 x9_1).f1) < 0
       ·
        rw [if_pos c7] at H
        have c7b0 : decide (((rd_T56 l0 x9_1).f1) < 0) = true := decide_eq_true c7
        clear c7
        simp only [Option.some.injEq, Prod.mk.injEq] at H
        obtain ⟨rfl, rfl⟩ := H
        have p122 : 0 ≤ (x9_1 : Int) := of_decide_eq_true (by (with_reducible assumption))
        have q122 : x9_1 < (l0.length : Int) := of_decide_eq_true (by (with_reducible assumption))
        obtain ⟨ad122, A122_0, c122_0, e122, hx122_0, hx122_1, hl122_0, hi122_0⟩ := at_T56 HR0.out x9_1 p122 q122
        cases e122
        replace hx122_0 := (HB.out.cell (World.block_lt_of_cell? w _ hx122_0)).trans hx122_0
        replace hx122_1 := (HB.out.cell (World.block_lt_of_cell? w _ hx122_1)).trans hx122_1
        have HR122_0 := Aside0.mk hi122_0
        have HC122_0 := Aside0.mk hl122_0
        clear hi122_0 hl122_0
        replace p122 := eq_true p122
        replace q122 := eq_true q122
        go_wp2_with (first | ((with_reducible refine gate_dst (N := 6) rfl ?_); refine box_event ?hg (N := 6) ?hd (cs := #[.slice none 0 0, .int .i64 0]) (t := 56) ?hr ?_; (case hd | hg => rfl); (case hr => go_simp; done); intro gb123 hg w8 hbox hb; replace HO_4 := Aside0.mk (Kd.N_below (Kd.N_elderB (by (with_reducible repeat (first | apply Kd.N_alloc | apply Kd.N_drewN | apply Kd.N_drew)); exact HO_4.out) gb123 (Nat.le_of_eq hg.symm)) hb); have BK123 := Aside0.mk (hbox); have GW123 := gw_ HB.out hg; have GE123 := gw_ HB.out hg; replace HB := Aside0.mk (below_step HB.out hb); clear hb hbox hg; have hcz9_0 := cz0_ BK123; have hcz9_1 := cz1_ BK123; have hfz9_0 := blk_frozen BK123.out 0; have hfz9_1 := blk_frozen BK123.out 1) | ((with_reducible refine gate_callee (f := 46) rfl ?_); refine goesL_ (some 15) rfl rfl Try.func46 (by kernel_rfl) rfl #[.slice A122_0 ((rd_T56 l0 x9_1).f0).length c122_0] rfl (by (try simp only [List.map_toArray, List.map_cons, List.map_nil]); rfl) ?_; (with_reducible refine (dist_small.calls k1 _ _ ((rd_T56 l0 x9_1).f0) true _ ?side1 ?side2 A5.out).mono ?_); (case side1 => exact Kd.C_below HR122_0.out (by repeat (with_reducible first | exact HB.out | refine below_set ?_ GE123.out))); (case side2 => exact HC122_0.out); rintro e w' ⟨rfl, ⟨nd, rfl⟩⟩; refine ⟨_, rfl, ?_⟩))
        go_ret2
        exact ⟨_, rfl, by exact Kd.N_nil _ _ _ _ _, by repeat (with_reducible first | exact HB.out | apply pw_below_drewN | refine below_set ?_ GE123.out)⟩
       ·
        rw [if_neg c7] at H
        have c7b0 : decide (((rd_T56 l0 x9_1).f1) < 0) = false := decide_eq_false c7
        clear c7
        by_cases c10 : ((rd_T56 l0 x9_1).f1) > 1073741824
        ·
         rw [if_pos c10] at H
         have c10b0 : decide (1073741824 < ((rd_T56 l0 x9_1).f1)) = true := decide_eq_true c10
         clear c10
         simp only [Option.some.injEq, Prod.mk.injEq] at H
         obtain ⟨rfl, rfl⟩ := H
         have p122 : 0 ≤ (x9_1 : Int) := of_decide_eq_true (by (with_reducible assumption))
         have q122 : x9_1 < (l0.length : Int) := of_decide_eq_true (by (with_reducible assumption))
         obtain ⟨ad122, A122_0, c122_0, e122, hx122_0, hx122_1, hl122_0, hi122_0⟩ := at_T56 HR0.out x9_1 p122 q122
         cases e122
         replace hx122_0 := (HB.out.cell (World.block_lt_of_cell? w _ hx122_0)).trans hx122_0
         replace hx122_1 := (HB.out.cell (World.block_lt_of_cell? w _ hx122_1)).trans hx122_1
         have HR122_0 := Aside0.mk hi122_0
         have HC122_0 := Aside0.mk hl122_0
         clear hi122_0 hl122_0
         replace p122 := eq_true p122
         replace q122 := eq_true q122
         go_wp2_with (first | ((with_reducible refine gate_dst (N := 6) rfl ?_); refine box_event ?hg (N := 6) ?hd (cs := #[.slice none 0 0, .int .i64 0]) (t := 56) ?hr ?_; (case hd | hg => rfl); (case hr => go_simp; done); intro gb123 hg w11 hbox hb; replace HO_4 := Aside0.mk (Kd.N_below (Kd.N_elderB (by (with_reducible repeat (first | apply Kd.N_alloc | apply Kd.N_drewN | apply Kd.N_drew)); exact HO_4.out) gb123 (Nat.le_of_eq hg.symm)) hb); have BK123 := Aside0.mk (hbox); have GW123 := gw_ HB.out hg; have GE123 := gw_ HB.out hg; replace HB := Aside0.mk (below_step HB.out hb); clear hb hbox hg; have hcz12_0 := cz0_ BK123; have hcz12_1 := cz1_ BK123; have hfz12_0 := blk_frozen BK123.out 0; have hfz12_1 := blk_frozen BK123.out 1) | ((with_reducible refine gate_callee (f := 46) rfl ?_); refine goesL_ (some 15) rfl rfl Try.func46 (by kernel_rfl) rfl #[.slice A122_0 ((rd_T56 l0 x9_1).f0).length c122_0] rfl (by (try simp only [List.map_toArray, List.map_cons, List.map_nil]); rfl) ?_; (with_reducible refine (dist_small.calls k1 _ _ ((rd_T56 l0 x9_1).f0) true _ ?side1 ?side2 A5.out).mono ?_); (case side1 => exact Kd.C_below HR122_0.out (by repeat (with_reducible first | exact HB.out | refine below_set ?_ GE123.out))); (case side2 => exact HC122_0.out); rintro e w' ⟨rfl, ⟨nd, rfl⟩⟩; refine ⟨_, rfl, ?_⟩))
         go_ret2
         exact ⟨_, rfl, by exact Kd.N_nil _ _ _ _ _, by repeat (with_reducible first | exact HB.out | apply pw_below_drewN | refine below_set ?_ GE123.out)⟩
        ·
         rw [if_neg c10] at H
         have c10b0 : decide (1073741824 < ((rd_T56 l0 x9_1).f1)) = false := decide_eq_false c10
         clear c10
         obtain ⟨t125, A13, H⟩ := bnd_ H
         by_cases c14 : x4_1.length < 4398046511104
         ·
          rw [if_pos c14] at H
          have LMc14 := Aside0.mk c14
          clear c14
          obtain ⟨y128, hy128⟩ : ∃ y_ : List (S56), y_ = (x4_1 ++ [(⟨t125, (rd_T56 l0 x9_1).f1⟩ : S56)]) := ⟨_, rfl⟩
          replace H : (dist_Make.l0 k1 y128 l0 (l0.length : Int) (wrap64 (x9_1 + 1))) = some (r1, r2) := by (rw [hy128]; with_reducible exact H)
          have Ny128 := Aside0.mk hy128
          clear hy128
          have H' := Aside0.mk H
          clear H
          have p122 : 0 ≤ (x9_1 : Int) := of_decide_eq_true (by (with_reducible assumption))
          have q122 : x9_1 < (l0.length : Int) := of_decide_eq_true (by (with_reducible assumption))
          obtain ⟨ad122, A122_0, c122_0, e122, hx122_0, hx122_1, hl122_0, hi122_0⟩ := at_T56 HR0.out x9_1 p122 q122
          cases e122
          replace hx122_0 := (HB.out.cell (World.block_lt_of_cell? w _ hx122_0)).trans hx122_0
          replace hx122_1 := (HB.out.cell (World.block_lt_of_cell? w _ hx122_1)).trans hx122_1
          have HR122_0 := Aside0.mk hi122_0
          have HC122_0 := Aside0.mk hl122_0
          clear hi122_0 hl122_0
          replace p122 := eq_true p122
          replace q122 := eq_true q122
          try go_wp2_with (first | ((with_reducible refine gate_dst (N := 6) rfl ?_); refine box_event ?hg (N := 6) ?hd (cs := #[.slice none 0 0, .int .i64 0]) (t := 56) ?hr ?_; (case hd | hg => rfl); (case hr => go_simp; done); intro gb123 hg w15 hbox hb; replace HO_4 := Aside0.mk (Kd.N_below (Kd.N_elderB (by (with_reducible repeat (first | apply Kd.N_alloc | apply Kd.N_drewN | apply Kd.N_drew)); exact HO_4.out) gb123 (Nat.le_of_eq hg.symm)) hb); have BK123 := Aside0.mk (hbox); have GW123 := gw_ HB.out hg; have GE123 := gw_ HB.out hg; replace HB := Aside0.mk (below_step HB.out hb); clear hb hbox hg; have hcz16_0 := cz0_ BK123; have hcz16_1 := cz1_ BK123; have hfz16_0 := blk_frozen BK123.out 0; have hfz16_1 := blk_frozen BK123.out 1) | ((with_reducible refine gate_callee (f := 46) rfl ?_); refine goesL_ (some 15) rfl rfl Try.func46 (by kernel_rfl) rfl #[.slice A122_0 ((rd_T56 l0 x9_1).f0).length c122_0] rfl (by (try simp only [List.map_toArray, List.map_cons, List.map_nil]); rfl) ?_; (with_reducible refine (dist_small.calls k1 _ _ ((rd_T56 l0 x9_1).f0) true _ ?side1 ?side2 A5.out).mono ?_); (case side1 => exact Kd.C_below HR122_0.out (by repeat (with_reducible first | exact HB.out | refine below_set ?_ GE123.out))); (case side2 => exact HC122_0.out); rintro e w' ⟨rfl, ⟨nd, rfl⟩⟩; refine ⟨_, rfl, ?_⟩))
          have n0_ : Aside0 (Kd.N k56 56 ((w15.setCell ⟨gb123, 0, none⟩ (.slice A122_0 ((rd_T56 l0 x9_1).f0).length c122_0)).setCell ⟨gb123, 1, none⟩ (.int .i64 ((rd_T56 l0 x9_1).f1))) w.heap.size (fun k_ => (w.heap.size ≤ k_) ∧ k_ ≠ gb123) u4 x4_1) := ⟨by (with_reducible repeat (first | apply Kd.N_alloc | apply Kd.N_drewN | apply Kd.N_drew)); exact Kd.N_mono (Kd.N_far (p := ⟨gb123, 1, none⟩) (Kd.N_far (p := ⟨gb123, 0, none⟩) (Kd.N_mono HO_4.out (fun k_ hk => (⟨hk, hk.2⟩ : _ ∧ k_ ≠ gb123))) (fun _ hk => hk.2) (.slice A122_0 ((rd_T56 l0 x9_1).f0).length c122_0)) (fun _ hk => hk.2) (.int .i64 ((rd_T56 l0 x9_1).f1))) (fun _ hk => ⟨hk.1.1, hk.1.2⟩)⟩
          have n1_ : Aside0 (((w15.setCell ⟨gb123, 0, none⟩ (.slice A122_0 ((rd_T56 l0 x9_1).f0).length c122_0)).setCell ⟨gb123, 1, none⟩ (.int .i64 ((rd_T56 l0 x9_1).f1))).heap[gb123]? = some (.cells #[.slice A122_0 ((rd_T56 l0 x9_1).f0).length c122_0, .int .i64 ((rd_T56 l0 x9_1).f1)] 56 (0, 0))) := ⟨by (with_reducible repeat (first | refine blk_drewN ?_ _ | refine blk_drew ?_ | refine blk_alloc ?_ _)); refine blk_put (cs := #[.slice A122_0 ((rd_T56 l0 x9_1).f0).length c122_0, .int .i64 0]) ?_ 1 _ rfl; (with_reducible repeat (first | refine blk_drewN ?_ _ | refine blk_drew ?_ | refine blk_alloc ?_ _)); refine blk_put (cs := #[.slice none 0 0, .int .i64 0]) ?_ 0 _ rfl; (with_reducible repeat (first | refine blk_drewN ?_ _ | refine blk_drew ?_ | refine blk_alloc ?_ _)); exact BK123.out⟩
          have n2_ : Aside0 (Below w.heap.size w ((w15.setCell ⟨gb123, 0, none⟩ (.slice A122_0 ((rd_T56 l0 x9_1).f0).length c122_0)).setCell ⟨gb123, 1, none⟩ (.int .i64 ((rd_T56 l0 x9_1).f1)))) := ⟨by repeat (with_reducible first | exact HB.out | refine below_set ?_ GE123.out)⟩
          (try clear HO_4)
          (try clear BK123)
          (try clear HB)
          generalize ((w15.setCell ⟨gb123, 0, none⟩ (.slice A122_0 ((rd_T56 l0 x9_1).f0).length c122_0)).setCell ⟨gb123, 1, none⟩ (.int .i64 ((rd_T56 l0 x9_1).f1))) = w17 at n0_ n1_ n2_ ⊢
          have HO_4 := n0_
          have BK123 := n1_
          have HB := n2_
          clear n0_ n1_ n2_
          (try (rw [drewN_self w17]; generalize hq_ : World.drewN w17 _ = w17; have n0_ : Aside0 (Kd.N k56 56 w17 w.heap.size (fun k_ => (w.heap.size ≤ k_) ∧ k_ ≠ gb123) u4 x4_1) := ⟨by rw [← hq_]; exact (by (with_reducible repeat (apply Kd.N_drewN)); exact HO_4.out)⟩; have n1_ : Aside0 (w17.heap[gb123]? = some (.cells #[.slice A122_0 ((rd_T56 l0 x9_1).f0).length c122_0, .int .i64 ((rd_T56 l0 x9_1).f1)] 56 (0, 0))) := ⟨by rw [← hq_]; exact (by (with_reducible repeat (refine blk_drewN ?_ _)); exact BK123.out)⟩; have n2_ : Aside0 (Below w.heap.size w w17) := ⟨by rw [← hq_]; exact (by repeat (with_reducible first | exact HB.out | apply pw_below_drewN))⟩; clear HO_4 BK123 HB hq_; have HO_4 := n0_; have BK123 := n1_; have HB := n2_; clear n0_ n1_ n2_))
          replace HO_4 := Aside0.mk (Kd.N_drew HO_4.out)
          replace BK123 := Aside0.mk (blk_drew BK123.out)
          replace HB := Aside0.mk (below_drew1 HB.out)
          refine start_ (n := 10) (S := fun w' => w'.cell? ⟨gb123, 0, none⟩ = some (.slice A122_0 ((rd_T56 l0 x9_1).f0).length c122_0) ∧ w'.cell? ⟨gb123, 1, none⟩ = some (.int .i64 ((rd_T56 l0 x9_1).f1))) (ds := []) #[false, false, false, false, false, false, false, false, false, false] (by kernel_rfl) rfl rfl ⟨(blk_cell BK123.out 0).trans rfl, (blk_cell BK123.out 1).trans rfl⟩ (fun hHeld => ?_); refine with_tabW dist_Make.tab7 dist_Make.bits7 (fun HT_ HW_ => ?_)
          generalize w17.drew = w18 at HO_4 BK123 HB hHeld ⊢
          refine pure_ (i := 0) (N := some 27) #[true, false, false, false, false, false, false, false, false, false] rfl rfl (any_of HT_.out (by kernel_rfl)) (fun _ _ _ h => h) (Or.inl ⟨rfl, by intro w'; go_simp; with_reducible rfl⟩) (by simp only [Act.put, List.setIfInBounds_toArray, List.set_cons_zero, List.set_cons_succ, i64_w, i32_w]; rfl) ?_
          refine pure_ (i := 1) (N := some 28) #[true, true, false, false, false, false, false, false, false, false] rfl rfl (any_of HT_.out (by kernel_rfl)) (fun _ _ _ h => h) (Or.inl ⟨rfl, by intro w'; go_simp; with_reducible rfl⟩) (by simp only [Act.put, List.setIfInBounds_toArray, List.set_cons_zero, List.set_cons_succ, i64_w, i32_w]; rfl) ?_
          refine pure_ (i := 4) (N := some 31) #[true, true, false, false, true, false, false, false, false, false] rfl rfl (any_of HT_.out (by kernel_rfl)) (fun _ _ _ h => h) (Or.inl ⟨rfl, by intro w'; go_simp; with_reducible rfl⟩) (by simp only [Act.put, List.setIfInBounds_toArray, List.set_cons_zero, List.set_cons_succ, i64_w, i32_w]; rfl) ?_
          refine take_ (i := 2) (N := some 29) #[true, true, true, false, true, false, false, false, false, false] rfl rfl (take_ofW HT_.out HW_.out (by kernel_rfl)) (fun _ _ _ h => h) (Or.inl ⟨rfl, by rintro w' ⟨s0, s1⟩; go_simp; with_reducible rfl⟩) hHeld (by simp only [Act.put, List.setIfInBounds_toArray, List.set_cons_zero, List.set_cons_succ, i64_w, i32_w]; rfl) ?_
          refine take_ (i := 5) (N := some 32) #[true, true, true, false, true, true, false, false, false, false] rfl rfl (take_ofW HT_.out HW_.out (by kernel_rfl)) (fun _ _ _ h => h) (Or.inl ⟨rfl, by rintro w' ⟨s0, s1⟩; go_simp; with_reducible rfl⟩) hHeld (by simp only [Act.put, List.setIfInBounds_toArray, List.set_cons_zero, List.set_cons_succ, i64_w, i32_w]; rfl) ?_
          refine one_ (i := 3) (N := some 30) #[true, true, true, true, true, true, false, false, false, false] rfl rfl (one_of HT_.out (by kernel_rfl)) (by decide) (fun K hK => ?_)
          refine goes_ Try.func47 (by kernel_rfl) rfl #[.slice A122_0 ((rd_T56 l0 x9_1).f0).length c122_0] rfl rfl rfl (by (try simp only [List.map_toArray, List.map_cons, List.map_nil]); rfl) ?_
          with_reducible refine (slices_Clone_int_int.calls _ _ ((rd_T56 l0 x9_1).f0) t125 _ ?side1 ?side2 A13.out).mono ?_
          (case side1 => repeat (exact (Kd.C_below HR122_0.out HB.out)))
          (case side2 => exact HC122_0.out)
          rintro e w19 ⟨v126, rfl, ho0, hb⟩
          refine ⟨_, rfl, ?_⟩
          replace HO_4 := Aside0.mk (Kd.N_elder' (by (with_reducible repeat (first | apply Kd.N_alloc | apply Kd.N_drewN | apply Kd.N_drew)); exact HO_4.out) (Kd.R_base ho0) hb)
          have HO127 := Aside0.mk (Kd.R_lower (Kd.R_newM (M := fun k_ => (w.heap.size ≤ k_)) ho0 (below_size HB.out) (fun k_ h_ => h_)) (below_size HB.out))
          replace BK123 := Aside0.mk (blk_below (g := gb123) (o := .cells #[.slice A122_0 ((rd_T56 l0 x9_1).f0).length c122_0, .int .i64 ((rd_T56 l0 x9_1).f1)] 56 (0, 0)) (by (with_reducible repeat (first | refine blk_drewN ?_ _ | refine blk_drew ?_ | refine blk_alloc ?_ _)); exact BK123.out) hb)
          replace HB := Aside0.mk (below_step HB.out hb)
          (try clear hb)
          (try clear ho0)
          obtain ⟨Ao20, co20, eo20⟩ := Kd.R_slice HO127.out
          (subst eo20)
          refine hK.out _ _ ⟨(blk_cell BK123.out 0).trans rfl, (blk_cell BK123.out 1).trans rfl⟩ (fun hHeld => ?_)
          clear hK K
          refine norm_ (a' := ?_) ?_ ?_
          rotate_left
          ·
           show Act.put _ (some 30) _ = _
           simp only [Act.put, List.setIfInBounds_toArray, List.set_cons_zero, List.set_cons_succ, i64_w, i32_w]
           rfl
          refine pure_ (i := 6) (N := some 33) #[true, true, true, true, true, true, true, false, false, false] rfl rfl (any_of HT_.out (by kernel_rfl)) (fun _ _ _ h => h) (Or.inl ⟨rfl, by intro w'; go_simp; with_reducible rfl⟩) (by simp only [Act.put, List.setIfInBounds_toArray, List.set_cons_zero, List.set_cons_succ, i64_w, i32_w]; rfl) ?_
          refine one_ (i := 7) (N := some 34) #[true, true, true, true, true, true, true, true, false, false] rfl rfl (one_of HT_.out (by kernel_rfl)) (by decide) (fun K hK => ?_)
          refine value_ (w1 := ?_) (v := ?_) rfl rfl ?_ ?_
          rotate_left 2
          ·
           go_simp
           constructor
           ·
            rfl
           ·
            rfl
          refine hK.out _ _ ⟨(blk_cell (blk_alloc BK123.out _) 0).trans rfl, (blk_cell (blk_alloc BK123.out _) 1).trans rfl⟩ (fun hHeld => ?_)
          clear hK K
          refine norm_ (a' := ?_) ?_ ?_
          rotate_left
          ·
           show Act.put _ (some 34) _ = _
           simp only [Act.put, List.setIfInBounds_toArray, List.set_cons_zero, List.set_cons_succ, i64_w, i32_w]
           rfl
          refine one_ (i := 8) (N := some 35) #[true, true, true, true, true, true, true, true, true, false] rfl rfl (one_of HT_.out (by kernel_rfl)) (by decide) (fun K hK => ?_)
          refine Kd.N_append_step k56 (w0 := w) w.heap.size rfl (.tmp 27) (.tmp 34) 24 56 (.agg #[(.slice none 0 0), (.int .i64 0)]) 32 rfl Try.underlying24 info56 rfl (by decide) (by omega) u4 x4_1 (⟨t125, (rd_T56 l0 x9_1).f1⟩ : S56) [.slice Ao20 t125.length co20, .int .i64 ((rd_T56 l0 x9_1).f1)] (fun k_ => (w.heap.size ≤ k_) ∧ k_ ≠ gb123) (fun k_ => ((fun k_ => (w.heap.size ≤ k_) ∧ k_ ≠ gb123)) k_ ∧ some k_ ≠ (u4 : Value).ownBlock) rfl rfl ?aP (fun _ hk => hk) ?aF ?aO ?aB ?aS ?aL ?_
          (case aP => exact (k56_mkF _ _ (⟨t125, (rd_T56 l0 x9_1).f1⟩ : S56) (Kd.R_reads' (Kd.R_mono (ok' := (fun k_ => ((fun k_ => (w.heap.size ≤ k_) ∧ k_ ≠ gb123)) k_ ∧ some k_ ≠ (u4 : Value).ownBlock)) (Kd.R_types (Kd.R_apart' (HO127.out) (Kd.N_typed HO_4.out) (by decide)) BK123.out (by decide)) (fun k_ hk => ⟨⟨hk.1.1.1, hk.2⟩, hk.1.2⟩))).2.1 (Kd.R_F (Kd.R_mono (ok' := (fun k_ => ((fun k_ => (w.heap.size ≤ k_) ∧ k_ ≠ gb123)) k_ ∧ some k_ ≠ (u4 : Value).ownBlock)) (Kd.R_types (Kd.R_apart' (HO127.out) (Kd.N_typed HO_4.out) (by decide)) BK123.out (by decide)) (fun k_ hk => ⟨⟨hk.1.1.1, hk.2⟩, hk.1.2⟩)))))
          (case aB => exact HB.out)
          (case aF => exact (fun k_ hk => ⟨(Nat.le_trans (below_size HB.out) hk), Kd.freshB (g := gb123) (o := .cells #[.slice A122_0 ((rd_T56 l0 x9_1).f0).length c122_0, .int .i64 ((rd_T56 l0 x9_1).f1)] 56 (0, 0)) (by (with_reducible repeat (first | refine blk_drewN ?_ _ | refine blk_drew ?_ | refine blk_alloc ?_ _)); exact BK123.out) k_ hk⟩))
          (case aO => exact (by (with_reducible repeat (first | apply Kd.N_alloc | apply Kd.N_drewN | apply Kd.N_drew)); exact Kd.N_mono HO_4.out (fun _ hk => ⟨hk.1.1, hk.1.2⟩)))
          (case aS => exact (below_size HB.out))
          (case aL => have := LMc14.out; omega)
          intro v129 w21 ho hb hg hat
          rw [← Ny128.out] at ho
          replace BK123 := Aside0.mk (blk_grown (g := gb123) (o := .cells #[.slice A122_0 ((rd_T56 l0 x9_1).f0).length c122_0, .int .i64 ((rd_T56 l0 x9_1).f1)] 56 (0, 0)) (by (with_reducible repeat (first | refine blk_drewN ?_ _ | refine blk_drew ?_ | refine blk_alloc ?_ _)); exact BK123.out) hg (Kd.N_away HO_4.out (fun _ hk => hk.1.2)))
          replace HB := Aside0.mk (hb)
          have HO130 := Aside0.mk (ho)
          clear HO_4 HO127
          clear ho hb hg hat
          refine hK.out _ _ ⟨(blk_cell BK123.out 0).trans rfl, (blk_cell BK123.out 1).trans rfl⟩ (fun hHeld => ?_)
          clear hK K
          refine norm_ (a' := ?_) ?_ ?_
          rotate_left
          ·
           show Act.put _ (some 35) _ = _
           simp only [Act.put, List.setIfInBounds_toArray, List.set_cons_zero, List.set_cons_succ, i64_w, i32_w]
           rfl
          refine pure_ (i := 9) (N := some 4) #[true, true, true, true, true, true, true, true, true, true] rfl rfl (any_of HT_.out (by kernel_rfl)) (fun _ _ _ h => h) (Or.inl ⟨rfl, by intro w'; go_simp; with_reducible rfl⟩) (by simp only [Act.put, List.setIfInBounds_toArray, List.set_cons_zero, List.set_cons_succ, i64_w, i32_w]; rfl) ?_
          refine done_ (done_of HT_.out (by kernel_rfl)) ?_
          try go_wp2
          go_roundg k1
          case measure => have := HK1.out; omega
          case rel => exact ⟨(y128), (wrap64 (x9_1 + 1)), rfl, H', ⟨by have := HK1.out; omega⟩, ⟨by (with_reducible repeat (first | apply Kd.N_alloc | apply Kd.N_drewN | apply Kd.N_drew)); exact Kd.N_mono HO130.out (fun _ hk => hk.1)⟩, ⟨HB.out⟩⟩
         ·
          rw [if_neg c14] at H
          exact absurd H (by simp)
      ·
       replace c6 := Bool.eq_false_iff.mpr c6
       subst c6
       rw [if_neg (show ¬ (false = true) by decide)] at H
       simp only [Option.some.injEq, Prod.mk.injEq] at H
       obtain ⟨rfl, rfl⟩ := H
       have p122 : 0 ≤ (x9_1 : Int) := of_decide_eq_true (by (with_reducible assumption))
       have q122 : x9_1 < (l0.length : Int) := of_decide_eq_true (by (with_reducible assumption))
       obtain ⟨ad122, A122_0, c122_0, e122, hx122_0, hx122_1, hl122_0, hi122_0⟩ := at_T56 HR0.out x9_1 p122 q122
       cases e122
       replace hx122_0 := (HB.out.cell (World.block_lt_of_cell? w _ hx122_0)).trans hx122_0
       replace hx122_1 := (HB.out.cell (World.block_lt_of_cell? w _ hx122_1)).trans hx122_1
       have HR122_0 := Aside0.mk hi122_0
       have HC122_0 := Aside0.mk hl122_0
       clear hi122_0 hl122_0
       replace p122 := eq_true p122
       replace q122 := eq_true q122
       go_wp2_with (first | ((with_reducible refine gate_dst (N := 6) rfl ?_); refine box_event ?hg (N := 6) ?hd (cs := #[.slice none 0 0, .int .i64 0]) (t := 56) ?hr ?_; (case hd | hg => rfl); (case hr => go_simp; done); intro gb123 hg w22 hbox hb; replace HO_4 := Aside0.mk (Kd.N_below (Kd.N_elderB (by (with_reducible repeat (first | apply Kd.N_alloc | apply Kd.N_drewN | apply Kd.N_drew)); exact HO_4.out) gb123 (Nat.le_of_eq hg.symm)) hb); have BK123 := Aside0.mk (hbox); have GW123 := gw_ HB.out hg; have GE123 := gw_ HB.out hg; replace HB := Aside0.mk (below_step HB.out hb); clear hb hbox hg; have hcz23_0 := cz0_ BK123; have hcz23_1 := cz1_ BK123; have hfz23_0 := blk_frozen BK123.out 0; have hfz23_1 := blk_frozen BK123.out 1) | ((with_reducible refine gate_callee (f := 46) rfl ?_); refine goesL_ (some 15) rfl rfl Try.func46 (by kernel_rfl) rfl #[.slice A122_0 ((rd_T56 l0 x9_1).f0).length c122_0] rfl (by (try simp only [List.map_toArray, List.map_cons, List.map_nil]); rfl) ?_; (with_reducible refine (dist_small.calls k1 _ _ ((rd_T56 l0 x9_1).f0) false _ ?side1 ?side2 A5.out).mono ?_); (case side1 => exact Kd.C_below HR122_0.out (by repeat (with_reducible first | exact HB.out | refine below_set ?_ GE123.out))); (case side2 => exact HC122_0.out); rintro e w' ⟨rfl, ⟨nd, rfl⟩⟩; refine ⟨_, rfl, ?_⟩))
       go_ret2
       exact ⟨_, rfl, by exact Kd.N_nil _ _ _ _ _, by repeat (with_reducible first | exact HB.out | apply pw_below_drewN | refine below_set ?_ GE123.out)⟩
     ·
      rw [if_neg c4] at H
      exact absurd H (by simp)
    ·
     rw [if_neg c3] at H
     exact absurd H (by simp)
   ·
    rw [if_neg c2] at H
    have c2b0 : decide (x9_1 < (l0.length : Int)) = false := decide_eq_false c2
    clear c2
    obtain ⟨⟨t118, t121⟩, A24, H⟩ := bnd_ H
    dsimp only at H
    simp only [Option.some.injEq, Prod.mk.injEq] at H
    obtain ⟨rfl, rfl⟩ := H
    obtain ⟨Ao25, co25, eo25⟩ := Kd.N_slice HO_4.out
    subst eo25
    go_wp2_with (((with_reducible refine gate_callee (f := 48) rfl ?_); refine goesL_ (some 38) rfl rfl Try.func48 (by kernel_rfl) rfl #[.slice Ao25 x4_1.length co25] rfl (by (try simp only [List.map_toArray, List.map_cons, List.map_nil]); rfl) ?_; (with_reducible refine (dist_tidy.calls k1 (fun k_ => (w.heap.size ≤ k_)) (.slice Ao25 x4_1.length co25) x4_1 t118 t121 w _ ?side1 ?side2 A24.out).mono ?_); (case side1 => repeat ((with_reducible exact HB.out))); (case side2 => exact HO_4.out); rintro e w26 ⟨v119, rfl, ho0, hb, hkp⟩; refine ⟨_, rfl, ?_⟩; have HO120 := Aside0.mk (Kd.N_lower (Kd.N_mono (ok' := fun k_ => (w.heap.size ≤ k_)) ho0 (fun k_ hk_ => Or.elim hk_ (fun hs_ => hs_) (fun hn_ => (Nat.le_trans (below_size HB.out) hn_)))) (below_size HB.out)); replace HB := Aside0.mk (hb); clear HO_4; (try clear hb); (try clear hkp); (try clear ho0)))
    go_ret2
    exact ⟨_, rfl, by (with_reducible repeat (first | apply Kd.N_alloc | apply Kd.N_drewN | apply Kd.N_drew)); exact HO120.out, HB.out⟩

end Go.Proofs.Yteajcjalpofalaa.PA

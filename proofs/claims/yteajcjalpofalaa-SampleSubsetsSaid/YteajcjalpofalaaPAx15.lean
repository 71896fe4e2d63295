
/- Functions of the program in Lean, by wip/xprint.py. Conditions: in each theorem. -/
import Derived.Test.YteajcjalpofalaaPAxs
import Derived.Test.YteajcjalpofalaaPAx0
import Derived.Test.YteajcjalpofalaaPAx8
import Derived.Test.YteajcjalpofalaaPAx9
import Derived.Test.YteajcjalpofalaaPAx14
namespace Go.Proofs.Yteajcjalpofalaa.PA
open Go.RowKit Go.Proofs.YteajcjalpofalaaW.PrintWords Go.Proofs.YteajcjalpofalaaW.PrintLast Go.Proofs.YteajcjalpofalaaW.PrintMore
attribute [local go_sem] max2_int min2_int max_two min_two max_three min_three max_four min_four   -- for this text's walks alone
set_option linter.unusedVariables false
set_option linter.unusedSimpArgs false

/-! ### hushref11_Subsets: function 6 -/
mutual
def hushref11_Subsets.j0 : Nat → Int → Bool → Int → Int → Option ((List (S56)) × Int)
 | 0, _, _, _, _ => none
 | k + 1, x1, x21, x201000, x201001 => if x21 = true then (some (([] : List (S56)), 5)) else ((hushref6_Power.f k x201001 x1).bind fun t202 => (if t202 > 1073741824 then (some (([] : List (S56)), 4)) else (hushref11_Subsets.l0 k x1 ([] : List (S56)) 0 x201000 x201001)))
def hushref11_Subsets.l0 : Nat → Int → List (S56) → Int → Int → Int → Option ((List (S56)) × Int)
 | 0, _, _, _, _, _ => none
 | k + 1, x1, x7, x8, x201000, x201001 => (hushref6_Power.f k 2 x1).bind fun t203 => (if x8 < t203 then (hushref11_Subsets.l1 k x1 x7 x8 1 0 x201000 x201001) else ((hushref2_Make.f k x7).bind fun bt204 => (some (bt204.1, bt204.2))))
def hushref11_Subsets.l1 : Nat → Int → List (S56) → Int → Int → Int → Int → Int → Option ((List (S56)) × Int)
 | 0, _, _, _, _, _, _, _ => none
 | k + 1, x1, x7, x8, x9, x10, x201000, x201001 => if x10 < x1 then ((hushref11_In.f k x8 x10).bind fun t208 => (if t208 = true then (hushref11_Subsets.l1 k x1 x7 x8 (wrap64 (x9 * x201000)) (wrap64 (x10 + 1)) x201000 x201001) else (hushref11_Subsets.l1 k x1 x7 x8 (wrap64 (x9 * (wrap64 (x201001 - x201000)))) (wrap64 (x10 + 1)) x201000 x201001))) else (if x7.length < 4398046511104 then (hushref11_Subsets.l0 k x1 (x7 ++ [(⟨(([x8] : List Int)), x9⟩ : S56)]) (wrap64 (x8 + 1)) x201000 x201001) else (none))
end
def hushref11_Subsets.f (k : Nat) (a0_0 : Int) (a0_1 : Int) (a1 : Int) : Option ((List (S56)) × Int) := (hushref11_Chance.f k a0_0 a0_1).bind fun t201 => (if t201 = 0 then (if a1 < 0 then (hushref11_Subsets.j0 k a1 true a0_0 a0_1) else (hushref11_Subsets.j0 k a1 (decide (a1 > 10)) a0_0 a0_1)) else (some (([] : List (S56)), t201)))
theorem hushref11_Subsets.mono_l : ∀ k, (∀ y0 y1 y2 y3, LeO (hushref11_Subsets.j0 k y0 y1 y2 y3) (hushref11_Subsets.j0 (k + 1) y0 y1 y2 y3)) ∧ (∀ y0 y1 y2 y3 y4, LeO (hushref11_Subsets.l0 k y0 y1 y2 y3 y4) (hushref11_Subsets.l0 (k + 1) y0 y1 y2 y3 y4)) ∧ (∀ y0 y1 y2 y3 y4 y5 y6, LeO (hushref11_Subsets.l1 k y0 y1 y2 y3 y4 y5 y6) (hushref11_Subsets.l1 (k + 1) y0 y1 y2 y3 y4 y5 y6))
 | 0 => ⟨fun _ _ _ _ r h => by simp [hushref11_Subsets.j0] at h, fun _ _ _ _ _ r h => by simp [hushref11_Subsets.l0] at h, fun _ _ _ _ _ _ _ r h => by simp [hushref11_Subsets.l1] at h⟩
 | k + 1 => by
  obtain ⟨ih0, ih1, ih2⟩ := hushref11_Subsets.mono_l k
  refine ⟨?_, ?_, ?_⟩
  ·
   intro y0 y1 y2 y3
   unfold hushref11_Subsets.j0
   repeat' first
   | (with_reducible exact ih1 _ _ _ _ _)
   | (with_reducible exact hushref6_Power.mono _ _ _)
   | (with_reducible exact LeO.refl _)
   | (with_reducible refine LeO.ite ?_ ?_)
   | (with_reducible refine LeO.bind ?_ (fun _ => ?_))
  ·
   intro y0 y1 y2 y3 y4
   unfold hushref11_Subsets.l0
   repeat' first
   | (with_reducible exact ih2 _ _ _ _ _ _ _)
   | (with_reducible exact hushref2_Make.mono _ _)
   | (with_reducible exact hushref6_Power.mono _ _ _)
   | (with_reducible exact LeO.refl _)
   | (with_reducible refine LeO.ite ?_ ?_)
   | (with_reducible refine LeO.bind ?_ (fun _ => ?_))
  ·
   intro y0 y1 y2 y3 y4 y5 y6
   unfold hushref11_Subsets.l1
   repeat' first
   | (with_reducible exact ih1 _ _ _ _ _)
   | (with_reducible exact ih2 _ _ _ _ _ _ _)
   | (with_reducible exact hushref11_In.mono _ _ _)
   | (with_reducible exact LeO.refl _)
   | (with_reducible refine LeO.ite ?_ ?_)
   | (with_reducible refine LeO.bind ?_ (fun _ => ?_))
theorem hushref11_Subsets.mono : ∀ a0 a1 a2 k, LeO (hushref11_Subsets.f k a0 a1 a2) (hushref11_Subsets.f (k + 1) a0 a1 a2) := by
 intro a0 a1 a2 k
 obtain ⟨ih0, ih1, ih2⟩ := hushref11_Subsets.mono_l k
 unfold hushref11_Subsets.f
 repeat' first
   | (with_reducible exact ih0 _ _ _ _)
   | (with_reducible exact hushref11_Chance.mono _ _ _)
   | (with_reducible exact LeO.refl _)
   | (with_reducible refine LeO.ite ?_ ?_)
   | (with_reducible refine LeO.bind ?_ (fun _ => ?_))
set_option maxHeartbeats 8000000 in
set_option maxRecDepth 100000 in
theorem hushref11_Subsets.calls (k : Nat) (a0_0 : Int) (a0_1 : Int) (a1 : Int) (r1 : List (S56)) (r2 : Int) (w : World) (h : hushref11_Subsets.f k a0_0 a0_1 a1 = some (r1, r2)) :
  Calls Try.prog 6 #[.agg #[.int .i64 a0_0, .int .i64 a0_1], .int .i64 a1] w fun e w' => ∃ v0_ : Value, e = .returned (.tuple #[v0_, .int .i64 r2]) ∧ Kd.N k56 56 w' w.heap.size (fun k_ => (w.heap.size ≤ k_)) v0_ r1 ∧ Below w.heap.size w w' := by
 have hu23 := Try.underlying23
 have hu56 := Try.underlying56
 have HB := Aside0.mk (Below.refl w.heap.size w)
 have H : ((hushref11_Chance.f k a0_0 a0_1).bind fun t201 => (if t201 = 0 then (if a1 < 0 then (hushref11_Subsets.j0 k a1 true a0_0 a0_1) else (hushref11_Subsets.j0 k a1 (decide (a1 > 10)) a0_0 a0_1)) else (some (([] : List (S56)), t201)))) = some (r1, r2) := h
 clear h
 obtain ⟨t201, A3, H⟩ := bnd_ H
 by_cases c4 : t201 = 0
 ·
  rw [if_pos c4] at H
  have c4b0 : (t201 == 0) = true := beq_iff_eq.mpr c4
  have c4b1 : (t201 != 0) = false := bne_eq_false_iff_eq.mpr c4
  clear c4
  have HC5 := Aside0.mk H
  clear H
  go_enter Try.func6, Try.ntmps6
  go_upto_region 4 with (first | ((with_reducible refine gate_dst (N := 2) rfl ?_); refine box_event ?hg (N := 2) ?hd (cs := #[.int .i64 a0_0, .int .i64 a0_1]) (t := 23) ?hr ?_; (case hd | hg => rfl); (case hr => go_simp; done); intro gb200 hg w6 hbox hb; have BK200 := Aside0.mk (hbox); have GW200 := gw_ HB.out hg; have GE200 := gw_ HB.out hg; replace HB := Aside0.mk (below_step HB.out hb); clear hb hbox hg; have hcz7_0 := cz0_ BK200; have hcz7_1 := cz1_ BK200; have hfz7_0 := blk_frozen BK200.out 0; have hfz7_1 := blk_frozen BK200.out 1) | ((with_reducible refine gate_callee (f := 19) rfl ?_); refine goesL_ (some 12) rfl rfl Try.func19 (by kernel_rfl) rfl #[.agg #[.int .i64 a0_0, .int .i64 a0_1]] rfl (by (try simp only [List.map_toArray, List.map_cons, List.map_nil]); rfl) ?_; (with_reducible refine (hushref11_Chance.calls k a0_0 a0_1 t201 _ A3.out).mono ?_); rintro e w8 ⟨rfl, hb⟩; refine ⟨_, rfl, ?_⟩; replace BK200 := Aside0.mk (blk_below (g := gb200) (o := .cells #[.int .i64 a0_0, .int .i64 a0_1] 23 (0, 0)) (by (with_reducible repeat (first | refine blk_drewN ?_ _ | refine blk_drew ?_ | refine blk_alloc ?_ _)); exact BK200.out) hb); replace HB := Aside0.mk (below_step HB.out hb); (try clear hb)))
  go_cut [21] (fun v21 wc => ∃ (kq : Nat) (x21_4 : Bool), v21 = .bool x21_4 ∧ Aside0 (hushref11_Subsets.j0 kq a1 x21_4 a0_0 a0_1 = some (r1, r2)) ∧ Aside0 (kq ≤ k) ∧ Aside0 (wc.heap[gb200]? = some (.cells #[.int .i64 a0_0, .int .i64 a0_1] 23 (0, 0))) ∧ Aside0 (Below w.heap.size w wc))
  case first =>
   have H := HC5.out
   clear HC5
   by_cases c9 : a1 < 0
   ·
    rw [if_pos c9] at H
    have c9b0 : decide (a1 < 0) = true := decide_eq_true c9
    clear c9
    have H' := Aside0.mk H
    clear H
    go_wp2
    go_meet
    case rel => exact ⟨_, (true), rfl, H', ⟨by omega⟩, ⟨by (with_reducible repeat (first | refine blk_drewN ?_ _ | refine blk_drew ?_ | refine blk_alloc ?_ _)); exact BK200.out⟩, ⟨HB.out⟩⟩
   ·
    rw [if_neg c9] at H
    have c9b0 : decide (a1 < 0) = false := decide_eq_false c9
    clear c9
    have H' := Aside0.mk H
    clear H
    go_wp2
    go_meet
    case rel => exact ⟨_, (decide (a1 > 10)), rfl, H', ⟨by omega⟩, ⟨by (with_reducible repeat (first | refine blk_drewN ?_ _ | refine blk_drew ?_ | refine blk_alloc ?_ _)); exact BK200.out⟩, ⟨HB.out⟩⟩
  case rest =>
   clear HC5
   try clear c4b0
   try clear c4b1
   try clear hcz7_0
   try clear hcz7_1
   try clear hfz7_0
   try clear hfz7_1
   obtain ⟨kq, x21_4, rfl, HA, HJ4, BK200, HB⟩ := hcut
   cases kq with
   | zero => exact absurd HA.out (by simp [hushref11_Subsets.j0])
   | succ kj4 =>
    have H := HA.out
    clear HA
    simp only [hushref11_Subsets.j0] at H
    by_cases c10 : x21_4 = true
    ·
     subst c10
     rw [if_pos rfl] at H
     simp only [Option.some.injEq, Prod.mk.injEq] at H
     obtain ⟨rfl, rfl⟩ := H
     go_wp2
     go_ret2
     exact ⟨_, rfl, by exact Kd.N_nil _ _ _ _ _, HB.out⟩
    ·
     replace c10 := Bool.eq_false_iff.mpr c10
     subst c10
     rw [if_neg (show ¬ (false = true) by decide)] at H
     obtain ⟨t202, A11, H⟩ := bnd_ H
     by_cases c12 : t202 > 1073741824
     ·
      rw [if_pos c12] at H
      have c12b0 : decide (1073741824 < t202) = true := decide_eq_true c12
      clear c12
      simp only [Option.some.injEq, Prod.mk.injEq] at H
      obtain ⟨rfl, rfl⟩ := H
      have hcz13_0 := cz0_ BK200
      have hcz13_1 := cz1_ BK200
      have hfz13_0 := blk_frozen BK200.out 0
      have hfz13_1 := blk_frozen BK200.out 1
      go_wp2_with (((with_reducible refine gate_callee (f := 20) rfl ?_); refine goesL_ (some 25) rfl rfl Try.func20 (by kernel_rfl) rfl #[.int .i64 a0_1, .int .i64 a1] rfl (by (try simp only [List.map_toArray, List.map_cons, List.map_nil]); rfl) ?_; (with_reducible refine (hushref6_Power.calls kj4 a0_1 a1 t202 _ A11.out).mono ?_); rintro e w' ⟨rfl, ⟨nd, rfl⟩⟩; refine ⟨_, rfl, ?_⟩))
      go_ret2
      exact ⟨_, rfl, by exact Kd.N_nil _ _ _ _ _, by repeat (with_reducible first | exact HB.out | apply pw_below_drewN)⟩
     ·
      rw [if_neg c12] at H
      have c12b0 : decide (1073741824 < t202) = false := decide_eq_false c12
      clear c12
      have H' := Aside0.mk H
      clear H
      have hcz14_0 := cz0_ BK200
      have hcz14_1 := cz1_ BK200
      have hfz14_0 := blk_frozen BK200.out 0
      have hfz14_1 := blk_frozen BK200.out 1
      go_wp2_with (((with_reducible refine gate_callee (f := 20) rfl ?_); refine goesL_ (some 25) rfl rfl Try.func20 (by kernel_rfl) rfl #[.int .i64 a0_1, .int .i64 a1] rfl (by (try simp only [List.map_toArray, List.map_cons, List.map_nil]); rfl) ?_; (with_reducible refine (hushref6_Power.calls kj4 a0_1 a1 t202 _ A11.out).mono ?_); rintro e w' ⟨rfl, ⟨nd, rfl⟩⟩; refine ⟨_, rfl, ?_⟩))
      go_loopg [7, 8] kj4 (fun kq v7 v8 w' => ∃ (x7_2 : List (S56)) (x8_2 : Int), v8 = .int .i64 x8_2 ∧ Aside0 (hushref11_Subsets.l0 kq a1 x7_2 x8_2 a0_0 a0_1 = some (r1, r2)) ∧ Aside0 (kq ≤ kj4) ∧ Aside0 (Kd.N k56 56 w' w.heap.size (fun k_ => (w.heap.size ≤ k_) ∧ k_ ≠ gb200) v7 x7_2) ∧ Aside0 (w'.heap[gb200]? = some (.cells #[.int .i64 a0_0, .int .i64 a0_1] 23 (0, 0))) ∧ Aside0 (Below w.heap.size w w'))
      case atStart => exact ⟨(([] : List (S56))), (0), rfl, H', ⟨Nat.le_refl _⟩, ⟨by exact Kd.N_nil _ _ _ _ _⟩, ⟨by (with_reducible repeat (refine blk_drewN ?_ _)); exact BK200.out⟩, ⟨by repeat (with_reducible first | exact HB.out | apply pw_below_drewN)⟩⟩
      case round =>
       clear H'
       try clear c12b0
       try clear hcz14_0
       try clear hcz14_1
       try clear hfz14_0
       try clear hfz14_1
       obtain ⟨x7_2, x8_2, rfl, HA, HK2, HO_7, BK200, HB⟩ := hrel
       cases gk with
       | zero => exact absurd HA.out (by simp [hushref11_Subsets.l0])
       | succ k2 =>
        have H := HA.out
        clear HA
        simp only [hushref11_Subsets.l0] at H
        obtain ⟨t203, A15, H⟩ := bnd_ H
        by_cases c16 : x8_2 < t203
        ·
         rw [if_pos c16] at H
         have c16b0 : decide (x8_2 < t203) = true := decide_eq_true c16
         clear c16
         have H' := Aside0.mk H
         clear H
         go_wp2_with (((with_reducible refine gate_callee (f := 20) rfl ?_); refine goesL_ (some 29) rfl rfl Try.func20 (by kernel_rfl) rfl #[.int .i64 2, .int .i64 a1] rfl (by (try simp only [List.map_toArray, List.map_cons, List.map_nil]); rfl) ?_; (with_reducible refine (hushref6_Power.calls k2 2 a1 t203 _ A15.out).mono ?_); rintro e w' ⟨rfl, ⟨nd, rfl⟩⟩; refine ⟨_, rfl, ?_⟩))
         go_loopg [9, 10] k2 (fun kq v9 v10 w' => ∃ (x9_3 : Int) (x10_3 : Int), v9 = .int .i64 x9_3 ∧ v10 = .int .i64 x10_3 ∧ Aside0 (hushref11_Subsets.l1 kq a1 x7_2 x8_2 x9_3 x10_3 a0_0 a0_1 = some (r1, r2)) ∧ Aside0 (kq ≤ k2) ∧ Aside0 (Kd.N k56 56 w' w.heap.size (fun k_ => (w.heap.size ≤ k_) ∧ k_ ≠ gb200) u7 x7_2) ∧ Aside0 (w'.heap[gb200]? = some (.cells #[.int .i64 a0_0, .int .i64 a0_1] 23 (0, 0))) ∧ Aside0 (Below w.heap.size w w'))
         case atStart => exact ⟨(1), (0), rfl, rfl, H', ⟨Nat.le_refl _⟩, ⟨by (with_reducible repeat (apply Kd.N_drewN)); exact HO_7.out⟩, ⟨by (with_reducible repeat (refine blk_drewN ?_ _)); exact BK200.out⟩, ⟨by repeat (with_reducible first | exact HB.out | apply pw_below_drewN)⟩⟩
         case round =>
          clear H'
          try clear c16b0
          obtain ⟨x9_3, x10_3, rfl, rfl, HA, HK3, HO_7, BK200, HB⟩ := hrel
          cases gk with
          | zero => exact absurd HA.out (by simp [hushref11_Subsets.l1])
          | succ k3 =>
           have H := HA.out
           clear HA
           simp only [hushref11_Subsets.l1] at H
           by_cases c17 : x10_3 < a1
           ·
            rw [if_pos c17] at H
            have c17b0 : decide (x10_3 < a1) = true := decide_eq_true c17
            clear c17
            obtain ⟨t208, A18, H⟩ := bnd_ H
            by_cases c19 : t208 = true
            ·
             subst c19
             rw [if_pos rfl] at H
             have H' := Aside0.mk H
             clear H
             go_wp2_with (((with_reducible refine gate_callee (f := 21) rfl ?_); refine goesL_ (some 40) rfl rfl Try.func21 (by kernel_rfl) rfl #[.int .i64 x8_2, .int .i64 x10_3] rfl (by (try simp only [List.map_toArray, List.map_cons, List.map_nil]); rfl) ?_; (with_reducible refine (hushref11_In.calls k3 x8_2 x10_3 true _ A18.out).mono ?_); rintro e w' ⟨rfl, ⟨nd, rfl⟩⟩; refine ⟨_, rfl, ?_⟩; have hcz20_0 := cz0_ BK200; have hcz20_1 := cz1_ BK200; have hfz20_0 := blk_frozen BK200.out 0; have hfz20_1 := blk_frozen BK200.out 1))
             go_roundg k3
             case measure => have := HJ4.out; have := HK2.out; have := HK3.out; omega
             case rel => exact ⟨(wrap64 (x9_3 * a0_0)), (wrap64 (x10_3 + 1)), rfl, rfl, H', ⟨by have := HJ4.out; have := HK2.out; have := HK3.out; omega⟩, ⟨by (with_reducible repeat (apply Kd.N_drewN)); exact HO_7.out⟩, ⟨by (with_reducible repeat (refine blk_drewN ?_ _)); exact BK200.out⟩, ⟨by repeat (with_reducible first | exact HB.out | apply pw_below_drewN)⟩⟩
            ·
             replace c19 := Bool.eq_false_iff.mpr c19
             subst c19
             rw [if_neg (show ¬ (false = true) by decide)] at H
             have H' := Aside0.mk H
             clear H
             go_wp2_with (((with_reducible refine gate_callee (f := 21) rfl ?_); refine goesL_ (some 40) rfl rfl Try.func21 (by kernel_rfl) rfl #[.int .i64 x8_2, .int .i64 x10_3] rfl (by (try simp only [List.map_toArray, List.map_cons, List.map_nil]); rfl) ?_; (with_reducible refine (hushref11_In.calls k3 x8_2 x10_3 false _ A18.out).mono ?_); rintro e w' ⟨rfl, ⟨nd, rfl⟩⟩; refine ⟨_, rfl, ?_⟩; have hcz21_0 := cz0_ BK200; have hcz21_1 := cz1_ BK200; have hfz21_0 := blk_frozen BK200.out 0; have hfz21_1 := blk_frozen BK200.out 1))
             go_roundg k3
             case measure => have := HJ4.out; have := HK2.out; have := HK3.out; omega
             case rel => exact ⟨(wrap64 (x9_3 * (wrap64 (a0_1 - a0_0)))), (wrap64 (x10_3 + 1)), rfl, rfl, H', ⟨by have := HJ4.out; have := HK2.out; have := HK3.out; omega⟩, ⟨by (with_reducible repeat (apply Kd.N_drewN)); exact HO_7.out⟩, ⟨by (with_reducible repeat (refine blk_drewN ?_ _)); exact BK200.out⟩, ⟨by repeat (with_reducible first | exact HB.out | apply pw_below_drewN)⟩⟩
           ·
            rw [if_neg c17] at H
            have c17b0 : decide (x10_3 < a1) = false := decide_eq_false c17
            clear c17
            obtain ⟨y209, hy209⟩ : ∃ y_ : List Int, y_ = (([x8_2] : List Int)) := ⟨_, rfl⟩
            replace H : (if x7_2.length < 4398046511104 then (hushref11_Subsets.l0 k3 a1 (x7_2 ++ [(⟨y209, x9_3⟩ : S56)]) (wrap64 (x8_2 + 1)) a0_0 a0_1) else (none)) = some (r1, r2) := by (rw [hy209]; with_reducible exact H)
            have Ny209 := Aside0.mk hy209
            clear hy209
            by_cases c22 : x7_2.length < 4398046511104
            ·
             rw [if_pos c22] at H
             have LMc22 := Aside0.mk c22
             clear c22
             obtain ⟨y212, hy212⟩ : ∃ y_ : List (S56), y_ = (x7_2 ++ [(⟨y209, x9_3⟩ : S56)]) := ⟨_, rfl⟩
             replace H : (hushref11_Subsets.l0 k3 a1 y212 (wrap64 (x8_2 + 1)) a0_0 a0_1) = some (r1, r2) := by (rw [hy212]; with_reducible exact H)
             have Ny212 := Aside0.mk hy212
             clear hy212
             have H' := Aside0.mk H
             clear H
             go_wp2_with (first | ((with_reducible refine gate_dst (N := 54) rfl ?_); refine Kd.R_lit (Kd.int .i64) _ 3 ?hg (N := 54) ?hd (xs := ([x8_2] : List Int)) (inner := [.int .i64 x8_2]) (ok := fun _ => True) (okp := fun _ => True) ?hr ?hp (fun _ hk => hk) trivial (Below.refl _ _) (Nat.le_refl _) (by simp) ?_; (case hd | hg => rfl); (case hr => go_simp; done); (case hp => exact (Reps.one (show Kd.M (Kd.int .i64) _ _ _ x8_2 [.int .i64 x8_2] from rfl) (Reps.none _ _))); intro v210 w23 ho24 hb hg_ hnew_; clear hg_ hnew_; (rw [← Ny209.out] at ho24); replace HO_7 := Aside0.mk (Kd.N_elder' (by (with_reducible repeat (first | apply Kd.N_alloc | apply Kd.N_drewN | apply Kd.N_drew)); exact HO_7.out) (Kd.R_base ho24) hb); have HO211 := Aside0.mk (Kd.R_lower (Kd.R_newM (M := fun k_ => (w.heap.size ≤ k_)) ho24 (below_size HB.out) (fun k_ h_ => h_)) (below_size HB.out)); replace BK200 := Aside0.mk (blk_below (g := gb200) (o := .cells #[.int .i64 a0_0, .int .i64 a0_1] 23 (0, 0)) (by (with_reducible repeat (first | refine blk_drewN ?_ _ | refine blk_drew ?_ | refine blk_alloc ?_ _)); exact BK200.out) hb); replace HB := Aside0.mk (below_step HB.out hb); clear hb ho24; obtain ⟨Ao25, co25, eo25⟩ := Kd.R_slice HO211.out; subst eo25) | ((with_reducible refine gate_builtin (b := .append) (xs := #[.tmp 52, .tmp 57]) rfl ?_); at_builtin; refine Kd.N_append k56 (w0 := w) w.heap.size rfl (.tmp 52) (.tmp 57) 24 56 (.agg #[(.slice none 0 0), (.int .i64 0)]) 32 rfl Try.underlying24 info56 rfl (by decide) (by omega) u7 x7_2 (⟨y209, x9_3⟩ : S56) [.slice Ao25 y209.length co25, .int .i64 x9_3] (fun k_ => (w.heap.size ≤ k_) ∧ k_ ≠ gb200) (fun k_ => ((fun k_ => (w.heap.size ≤ k_) ∧ k_ ≠ gb200)) k_ ∧ some k_ ≠ (u7 : Value).ownBlock) rfl rfl ?aP (fun _ hk => hk) ?aF ?aO ?aB ?aS ?aL ?_; (case aP => exact (k56_mkF _ _ (⟨y209, x9_3⟩ : S56) (Kd.R_reads' (Kd.R_mono (ok' := (fun k_ => ((fun k_ => (w.heap.size ≤ k_) ∧ k_ ≠ gb200)) k_ ∧ some k_ ≠ (u7 : Value).ownBlock)) (Kd.R_types (Kd.R_apart' (HO211.out) (Kd.N_typed HO_7.out) (by decide)) BK200.out (by decide)) (fun k_ hk => ⟨⟨hk.1.1.1, hk.2⟩, hk.1.2⟩))).2.1 (Kd.R_F (Kd.R_mono (ok' := (fun k_ => ((fun k_ => (w.heap.size ≤ k_) ∧ k_ ≠ gb200)) k_ ∧ some k_ ≠ (u7 : Value).ownBlock)) (Kd.R_types (Kd.R_apart' (HO211.out) (Kd.N_typed HO_7.out) (by decide)) BK200.out (by decide)) (fun k_ hk => ⟨⟨hk.1.1.1, hk.2⟩, hk.1.2⟩))))); (case aB => exact HB.out); (case aF => exact (fun k_ hk => ⟨(Nat.le_trans (below_size HB.out) hk), Kd.freshB (g := gb200) (o := .cells #[.int .i64 a0_0, .int .i64 a0_1] 23 (0, 0)) (by (with_reducible repeat (first | refine blk_drewN ?_ _ | refine blk_drew ?_ | refine blk_alloc ?_ _)); exact BK200.out) k_ hk⟩)); (case aO => exact (by (with_reducible repeat (first | apply Kd.N_alloc | apply Kd.N_drewN | apply Kd.N_drew)); exact Kd.N_mono HO_7.out (fun _ hk => ⟨hk.1.1, hk.1.2⟩))); (case aS => exact (below_size HB.out)); (case aL => have := LMc22.out; omega); intro v213 w26 ho hb hg hat; rw [← Ny212.out] at ho; replace BK200 := Aside0.mk (blk_grown (g := gb200) (o := .cells #[.int .i64 a0_0, .int .i64 a0_1] 23 (0, 0)) (by (with_reducible repeat (first | refine blk_drewN ?_ _ | refine blk_drew ?_ | refine blk_alloc ?_ _)); exact BK200.out) hg (Kd.N_ne HO_7.out BK200.out (by decide))); replace HB := Aside0.mk (hb); have HO214 := Aside0.mk (ho); clear HO_7 HO211; clear ho hb hg hat))
             go_roundg k3
             case measure => have := HJ4.out; have := HK2.out; have := HK3.out; omega
             case rel => exact ⟨(y212), (wrap64 (x8_2 + 1)), rfl, H', ⟨by have := HJ4.out; have := HK2.out; have := HK3.out; omega⟩, ⟨by (with_reducible repeat (first | apply Kd.N_alloc | apply Kd.N_drewN | apply Kd.N_drew)); exact HO214.out⟩, ⟨by (with_reducible repeat (first | refine blk_drewN ?_ _ | refine blk_drew ?_ | refine blk_alloc ?_ _)); exact BK200.out⟩, ⟨HB.out⟩⟩
            ·
             rw [if_neg c22] at H
             exact absurd H (by simp)
        ·
         rw [if_neg c16] at H
         have c16b0 : decide (x8_2 < t203) = false := decide_eq_false c16
         clear c16
         obtain ⟨⟨t204, t207⟩, A27, H⟩ := bnd_ H
         dsimp only at H
         simp only [Option.some.injEq, Prod.mk.injEq] at H
         obtain ⟨rfl, rfl⟩ := H
         go_wp2_with (first | ((with_reducible refine gate_callee (f := 20) rfl ?_); refine goesL_ (some 29) rfl rfl Try.func20 (by kernel_rfl) rfl #[.int .i64 2, .int .i64 a1] rfl (by (try simp only [List.map_toArray, List.map_cons, List.map_nil]); rfl) ?_; (with_reducible refine (hushref6_Power.calls k2 2 a1 t203 _ A15.out).mono ?_); rintro e w' ⟨rfl, ⟨nd, rfl⟩⟩; refine ⟨_, rfl, ?_⟩; obtain ⟨Ao28, co28, eo28⟩ := Kd.N_slice HO_7.out; subst eo28) | ((with_reducible refine gate_callee (f := 22) rfl ?_); refine goesL_ (some 60) rfl rfl Try.func22 (by kernel_rfl) rfl #[.slice Ao28 x7_2.length co28] rfl (by (try simp only [List.map_toArray, List.map_cons, List.map_nil]); rfl) ?_; (with_reducible refine (hushref2_Make.calls k2 (fun k_ => ((w.heap.size ≤ k_) ∧ k_ ≠ gb200)) _ _ x7_2 t204 t207 _ ?side1 A27.out).mono ?_); (case side1 => exact Kd.N_V (HO_7.out)); rintro e w29 ⟨v205, rfl, ho0, hb⟩; refine ⟨_, rfl, ?_⟩; replace HO_7 := Aside0.mk (Kd.N_elder' (by (with_reducible repeat (apply Kd.N_drewN)); exact HO_7.out) (Kd.N_base ho0) hb); have HO206 := Aside0.mk (Kd.N_lower (Kd.N_mono (ok' := fun k_ => (w.heap.size ≤ k_) ∧ k_ ≠ gb200) ho0 (fun k_ hk_ => ⟨Or.elim hk_ (fun hs_ => hs_.1) (fun hn_ => (Nat.le_trans (below_size (by repeat (with_reducible first | exact HB.out | apply pw_below_drewN))) hn_)), Or.elim hk_ (fun hs_ => hs_.2) (fun hn_ => (Kd.freshB (g := gb200) (o := .cells #[.int .i64 a0_0, .int .i64 a0_1] 23 (0, 0)) (by (with_reducible repeat (refine blk_drewN ?_ _)); exact BK200.out) k_ hn_))⟩)) (below_size (by repeat (with_reducible first | exact HB.out | apply pw_below_drewN)))); replace BK200 := Aside0.mk (blk_below (g := gb200) (o := .cells #[.int .i64 a0_0, .int .i64 a0_1] 23 (0, 0)) (by (with_reducible repeat (refine blk_drewN ?_ _)); exact BK200.out) hb); replace HB := Aside0.mk (below_step (by repeat (with_reducible first | exact HB.out | apply pw_below_drewN)) hb); (try clear hb); (try clear ho0)))
         go_ret2
         exact ⟨_, rfl, by (with_reducible repeat (first | apply Kd.N_alloc | apply Kd.N_drewN | apply Kd.N_drew)); exact Kd.N_mono HO206.out (fun _ hk => hk.1), HB.out⟩
 ·
  rw [if_neg c4] at H
  have c4b0 : (t201 == 0) = false := beq_eq_false_iff_ne.mpr c4
  have c4b1 : (t201 != 0) = true := bne_iff_ne.mpr c4
  simp only [Option.some.injEq, Prod.mk.injEq] at H
  obtain ⟨rfl, rfl⟩ := H
  go_enter Try.func6, Try.ntmps6
  go_wp2_with (first | ((with_reducible refine gate_dst (N := 2) rfl ?_); refine box_event ?hg (N := 2) ?hd (cs := #[.int .i64 a0_0, .int .i64 a0_1]) (t := 23) ?hr ?_; (case hd | hg => rfl); (case hr => go_simp; done); intro gb200 hg w30 hbox hb; have BK200 := Aside0.mk (hbox); have GW200 := gw_ HB.out hg; have GE200 := gw_ HB.out hg; replace HB := Aside0.mk (below_step HB.out hb); clear hb hbox hg; have hcz31_0 := cz0_ BK200; have hcz31_1 := cz1_ BK200; have hfz31_0 := blk_frozen BK200.out 0; have hfz31_1 := blk_frozen BK200.out 1) | ((with_reducible refine gate_callee (f := 19) rfl ?_); refine goesL_ (some 12) rfl rfl Try.func19 (by kernel_rfl) rfl #[.agg #[.int .i64 a0_0, .int .i64 a0_1]] rfl (by (try simp only [List.map_toArray, List.map_cons, List.map_nil]); rfl) ?_; (with_reducible refine (hushref11_Chance.calls k a0_0 a0_1 t201 _ A3.out).mono ?_); rintro e w32 ⟨rfl, hb⟩; refine ⟨_, rfl, ?_⟩; replace BK200 := Aside0.mk (blk_below (g := gb200) (o := .cells #[.int .i64 a0_0, .int .i64 a0_1] 23 (0, 0)) (by (with_reducible repeat (first | refine blk_drewN ?_ _ | refine blk_drew ?_ | refine blk_alloc ?_ _)); exact BK200.out) hb); replace HB := Aside0.mk (below_step HB.out hb); (try clear hb)))
  go_ret2
  exact ⟨_, rfl, by exact Kd.N_nil _ _ _ _ _, HB.out⟩

end Go.Proofs.Yteajcjalpofalaa.PA

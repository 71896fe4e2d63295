
/- Functions of the program in Lean, by wip/xprint.py. Conditions: in each theorem. -/
import Derived.Test.YtjbgnlhgjgnclaaPBxs
import Derived.Test.YtjbgnlhgjgnclaaPBx0
import Derived.Test.YtjbgnlhgjgnclaaPBx10
import Derived.Test.YtjbgnlhgjgnclaaPBx15
namespace Go.Proofs.Ytjbgnlhgjgnclaa.PB
open Go.RowKit Go.Proofs.YtjbgnlhgjgnclaaW.PrintWords Go.Proofs.YtjbgnlhgjgnclaaW.PrintLast Go.Proofs.YtjbgnlhgjgnclaaW.PrintMore
attribute [local go_sem] max2_int min2_int max_two min_two max_three min_three max_four min_four   -- for this text's walks alone
set_option linter.unusedVariables false
set_option linter.unusedSimpArgs false

/-! ### hushref6_Respond: function 20 -/
mutual
def hushref6_Respond.j0 : Nat → Int → Int → Bool → Int → Int → Option ((List (S64)) × Int)
 | 0, _, _, _, _, _ => none
 | k + 1, x1, x2, x31, x328000, x328001 => if x31 = true then (some (([] : List (S64)), 3)) else (if (wrap64 (x328000 + (wrap64 ((wrap64 (x1 - 1)) * x328001)))) > 1073741824 then (some (([] : List (S64)), 4)) else (hushref6_Respond.l0 k x1 x2 ([] : List (S64)) 0 x328000 x328001))
def hushref6_Respond.l0 : Nat → Int → Int → List (S64) → Int → Int → Int → Option ((List (S64)) × Int)
 | 0, _, _, _, _, _, _ => none
 | k + 1, x1, x2, x9, x10, x328000, x328001 => if x10 < x1 then (if x10 = x2 then (if x9.length < 4398046511104 then (hushref6_Respond.l0 k x1 x2 (x9 ++ [(⟨(([x10] : List Int)), x328000⟩ : S64)]) (wrap64 (x10 + 1)) x328000 x328001) else (none)) else (if x9.length < 4398046511104 then (hushref6_Respond.l0 k x1 x2 (x9 ++ [(⟨(([x10] : List Int)), x328001⟩ : S64)]) (wrap64 (x10 + 1)) x328000 x328001) else (none))) else ((hushref2_Make.f k x9).bind fun bt341 => (some (bt341.1, bt341.2)))
end
def hushref6_Respond.f (k : Nat) (a0_0 : Int) (a0_1 : Int) (a1 : Int) (a2 : Int) : Option ((List (S64)) × Int) := (hushref6_Loss.f k a0_0 a0_1).bind fun t328 => (if t328 = 0 then (if a1 < 1 then (hushref6_Respond.j0 k a1 a2 true a0_0 a0_1) else (if a1 > 4096 then (hushref6_Respond.j0 k a1 a2 true a0_0 a0_1) else (if a2 < 0 then (hushref6_Respond.j0 k a1 a2 true a0_0 a0_1) else (hushref6_Respond.j0 k a1 a2 (decide (a2 ≥ a1)) a0_0 a0_1)))) else (some (([] : List (S64)), t328)))
theorem hushref6_Respond.mono_l : ∀ k, (∀ y0 y1 y2 y3 y4, LeO (hushref6_Respond.j0 k y0 y1 y2 y3 y4) (hushref6_Respond.j0 (k + 1) y0 y1 y2 y3 y4)) ∧ (∀ y0 y1 y2 y3 y4 y5, LeO (hushref6_Respond.l0 k y0 y1 y2 y3 y4 y5) (hushref6_Respond.l0 (k + 1) y0 y1 y2 y3 y4 y5))
 | 0 => ⟨fun _ _ _ _ _ r h => by simp [hushref6_Respond.j0] at h, fun _ _ _ _ _ _ r h => by simp [hushref6_Respond.l0] at h⟩
 | k + 1 => by
  obtain ⟨ih0, ih1⟩ := hushref6_Respond.mono_l k
  refine ⟨?_, ?_⟩
  ·
   intro y0 y1 y2 y3 y4
   unfold hushref6_Respond.j0
   repeat' first
   | (with_reducible exact ih1 _ _ _ _ _ _)
   | (with_reducible exact LeO.refl _)
   | (with_reducible refine LeO.ite ?_ ?_)
  ·
   intro y0 y1 y2 y3 y4 y5
   unfold hushref6_Respond.l0
   repeat' first
   | (with_reducible exact ih1 _ _ _ _ _ _)
   | (with_reducible exact hushref2_Make.mono _ _)
   | (with_reducible exact LeO.refl _)
   | (with_reducible refine LeO.ite ?_ ?_)
   | (with_reducible refine LeO.bind ?_ (fun _ => ?_))
theorem hushref6_Respond.mono : ∀ a0 a1 a2 a3 k, LeO (hushref6_Respond.f k a0 a1 a2 a3) (hushref6_Respond.f (k + 1) a0 a1 a2 a3) := by
 intro a0 a1 a2 a3 k
 obtain ⟨ih0, ih1⟩ := hushref6_Respond.mono_l k
 unfold hushref6_Respond.f
 repeat' first
   | (with_reducible exact ih0 _ _ _ _ _)
   | (with_reducible exact hushref6_Loss.mono _ _ _)
   | (with_reducible exact LeO.refl _)
   | (with_reducible refine LeO.ite ?_ ?_)
   | (with_reducible refine LeO.bind ?_ (fun _ => ?_))
set_option maxHeartbeats 8000000 in
set_option maxRecDepth 100000 in
theorem hushref6_Respond.calls (k : Nat) (a0_0 : Int) (a0_1 : Int) (a1 : Int) (a2 : Int) (r1 : List (S64)) (r2 : Int) (w : World) (h : hushref6_Respond.f k a0_0 a0_1 a1 a2 = some (r1, r2)) :
  Calls Try.prog 20 #[.agg #[.int .i64 a0_0, .int .i64 a0_1], .int .i64 a1, .int .i64 a2] w fun e w' => ∃ v0_ : Value, e = .returned (.tuple #[v0_, .int .i64 r2]) ∧ Kd.N k64 64 w' w.heap.size (fun k_ => (w.heap.size ≤ k_)) v0_ r1 ∧ Below w.heap.size w w' := by
 have hu23 := Try.underlying23
 have hu64 := Try.underlying64
 have HB := Aside0.mk (Below.refl w.heap.size w)
 have H : ((hushref6_Loss.f k a0_0 a0_1).bind fun t328 => (if t328 = 0 then (if a1 < 1 then (hushref6_Respond.j0 k a1 a2 true a0_0 a0_1) else (if a1 > 4096 then (hushref6_Respond.j0 k a1 a2 true a0_0 a0_1) else (if a2 < 0 then (hushref6_Respond.j0 k a1 a2 true a0_0 a0_1) else (hushref6_Respond.j0 k a1 a2 (decide (a2 ≥ a1)) a0_0 a0_1)))) else (some (([] : List (S64)), t328)))) = some (r1, r2) := h
 clear h
 obtain ⟨t328, A4, H⟩ := bnd_ H
 by_cases c5 : t328 = 0
 ·
  rw [if_pos c5] at H
  have c5b0 : (t328 == 0) = true := beq_iff_eq.mpr c5
  have c5b1 : (t328 != 0) = false := bne_eq_false_iff_eq.mpr c5
  clear c5
  have HC6 := Aside0.mk H
  clear H
  go_enter Try.func20, Try.ntmps20
  go_upto_region 4 with (first | ((with_reducible refine gate_dst (N := 3) rfl ?_); refine box_event ?hg (N := 3) ?hd (cs := #[.int .i64 a0_0, .int .i64 a0_1]) (t := 23) ?hr ?_; (case hd | hg => rfl); (case hr => go_simp; done); intro gb327 hg w7 hbox hb; have BK327 := Aside0.mk (hbox); have GW327 := gw_ HB.out hg; have GE327 := gw_ HB.out hg; replace HB := Aside0.mk (below_step HB.out hb); clear hb hbox hg; have hcz8_0 := cz0_ BK327; have hcz8_1 := cz1_ BK327; have hfz8_0 := blk_frozen BK327.out 0; have hfz8_1 := blk_frozen BK327.out 1) | ((with_reducible refine gate_callee (f := 38) rfl ?_); refine goesL_ (some 13) rfl rfl Try.func38 (by kernel_rfl) rfl #[.agg #[.int .i64 a0_0, .int .i64 a0_1]] rfl (by (try simp only [List.map_toArray, List.map_cons, List.map_nil]); rfl) ?_; (with_reducible refine (hushref6_Loss.calls k a0_0 a0_1 t328 _ A4.out).mono ?_); rintro e w9 ⟨rfl, hb⟩; refine ⟨_, rfl, ?_⟩; replace BK327 := Aside0.mk (blk_below (g := gb327) (o := .cells #[.int .i64 a0_0, .int .i64 a0_1] 23 (0, 0)) (by (with_reducible repeat (first | refine blk_drewN ?_ _ | refine blk_drew ?_ | refine blk_alloc ?_ _)); exact BK327.out) hb); replace HB := Aside0.mk (below_step HB.out hb); (try clear hb)))
  go_cut [31] (fun v31 wc => ∃ (kq : Nat) (x31_5 : Bool), v31 = .bool x31_5 ∧ Aside0 (hushref6_Respond.j0 kq a1 a2 x31_5 a0_0 a0_1 = some (r1, r2)) ∧ Aside0 (kq ≤ k) ∧ Aside0 (wc.heap[gb327]? = some (.cells #[.int .i64 a0_0, .int .i64 a0_1] 23 (0, 0))) ∧ Aside0 (Below w.heap.size w wc))
  case first =>
   have H := HC6.out
   clear HC6
   by_cases c10 : a1 < 1
   ·
    rw [if_pos c10] at H
    have c10b0 : decide (a1 < 1) = true := decide_eq_true c10
    clear c10
    have H' := Aside0.mk H
    clear H
    go_wp2
    go_meet
    case rel => exact ⟨_, (true), rfl, H', ⟨by omega⟩, ⟨by (with_reducible repeat (first | refine blk_drewN ?_ _ | refine blk_drew ?_ | refine blk_alloc ?_ _)); exact BK327.out⟩, ⟨HB.out⟩⟩
   ·
    rw [if_neg c10] at H
    have c10b0 : decide (a1 < 1) = false := decide_eq_false c10
    clear c10
    by_cases c11 : a1 > 4096
    ·
     rw [if_pos c11] at H
     have c11b0 : decide (4096 < a1) = true := decide_eq_true c11
     clear c11
     have H' := Aside0.mk H
     clear H
     go_wp2
     go_meet
     case rel => exact ⟨_, (true), rfl, H', ⟨by omega⟩, ⟨by (with_reducible repeat (first | refine blk_drewN ?_ _ | refine blk_drew ?_ | refine blk_alloc ?_ _)); exact BK327.out⟩, ⟨HB.out⟩⟩
    ·
     rw [if_neg c11] at H
     have c11b0 : decide (4096 < a1) = false := decide_eq_false c11
     clear c11
     by_cases c12 : a2 < 0
     ·
      rw [if_pos c12] at H
      have c12b0 : decide (a2 < 0) = true := decide_eq_true c12
      clear c12
      have H' := Aside0.mk H
      clear H
      go_wp2
      go_meet
      case rel => exact ⟨_, (true), rfl, H', ⟨by omega⟩, ⟨by (with_reducible repeat (first | refine blk_drewN ?_ _ | refine blk_drew ?_ | refine blk_alloc ?_ _)); exact BK327.out⟩, ⟨HB.out⟩⟩
     ·
      rw [if_neg c12] at H
      have c12b0 : decide (a2 < 0) = false := decide_eq_false c12
      clear c12
      have H' := Aside0.mk H
      clear H
      go_wp2
      go_meet
      case rel => exact ⟨_, (decide (a2 ≥ a1)), rfl, H', ⟨by omega⟩, ⟨by (with_reducible repeat (first | refine blk_drewN ?_ _ | refine blk_drew ?_ | refine blk_alloc ?_ _)); exact BK327.out⟩, ⟨HB.out⟩⟩
  case rest =>
   clear HC6
   try clear c5b0
   try clear c5b1
   try clear hcz8_0
   try clear hcz8_1
   try clear hfz8_0
   try clear hfz8_1
   obtain ⟨kq, x31_5, rfl, HA, HJ5, BK327, HB⟩ := hcut
   cases kq with
   | zero => exact absurd HA.out (by simp [hushref6_Respond.j0])
   | succ kj5 =>
    have H := HA.out
    clear HA
    simp only [hushref6_Respond.j0] at H
    by_cases c13 : x31_5 = true
    ·
     subst c13
     rw [if_pos rfl] at H
     simp only [Option.some.injEq, Prod.mk.injEq] at H
     obtain ⟨rfl, rfl⟩ := H
     go_wp2
     go_ret2
     exact ⟨_, rfl, by exact Kd.N_nil _ _ _ _ _, HB.out⟩
    ·
     replace c13 := Bool.eq_false_iff.mpr c13
     subst c13
     rw [if_neg (show ¬ (false = true) by decide)] at H
     by_cases c14 : (wrap64 (a0_0 + (wrap64 ((wrap64 (a1 - 1)) * a0_1)))) > 1073741824
     ·
      rw [if_pos c14] at H
      have c14b0 : decide (1073741824 < (wrap64 (a0_0 + (wrap64 ((wrap64 (a1 - 1)) * a0_1))))) = true := decide_eq_true c14
      clear c14
      simp only [Option.some.injEq, Prod.mk.injEq] at H
      obtain ⟨rfl, rfl⟩ := H
      have hcz15_0 := cz0_ BK327
      have hcz15_1 := cz1_ BK327
      have hfz15_0 := blk_frozen BK327.out 0
      have hfz15_1 := blk_frozen BK327.out 1
      go_wp2
      go_ret2
      exact ⟨_, rfl, by exact Kd.N_nil _ _ _ _ _, HB.out⟩
     ·
      rw [if_neg c14] at H
      have c14b0 : decide (1073741824 < (wrap64 (a0_0 + (wrap64 ((wrap64 (a1 - 1)) * a0_1))))) = false := decide_eq_false c14
      clear c14
      have H' := Aside0.mk H
      clear H
      have hcz16_0 := cz0_ BK327
      have hcz16_1 := cz1_ BK327
      have hfz16_0 := blk_frozen BK327.out 0
      have hfz16_1 := blk_frozen BK327.out 1
      go_wp2
      go_loopg [9, 10] kj5 (fun kq v9 v10 w' => ∃ (x9_2 : List (S64)) (x10_2 : Int), v10 = .int .i64 x10_2 ∧ Aside0 (hushref6_Respond.l0 kq a1 a2 x9_2 x10_2 a0_0 a0_1 = some (r1, r2)) ∧ Aside0 (kq ≤ kj5) ∧ Aside0 (Kd.N k64 64 w' w.heap.size (fun k_ => (w.heap.size ≤ k_) ∧ k_ ≠ gb327) v9 x9_2) ∧ Aside0 (w'.heap[gb327]? = some (.cells #[.int .i64 a0_0, .int .i64 a0_1] 23 (0, 0))) ∧ Aside0 (Below w.heap.size w w'))
      case atStart => exact ⟨(([] : List (S64))), (0), rfl, H', ⟨Nat.le_refl _⟩, ⟨by exact Kd.N_nil _ _ _ _ _⟩, ⟨by (with_reducible repeat (first | refine blk_drewN ?_ _ | refine blk_drew ?_ | refine blk_alloc ?_ _)); exact BK327.out⟩, ⟨HB.out⟩⟩
      case round =>
       clear H'
       try clear c14b0
       try clear hcz16_0
       try clear hcz16_1
       try clear hfz16_0
       try clear hfz16_1
       obtain ⟨x9_2, x10_2, rfl, HA, HK2, HO_9, BK327, HB⟩ := hrel
       cases gk with
       | zero => exact absurd HA.out (by simp [hushref6_Respond.l0])
       | succ k2 =>
        have H := HA.out
        clear HA
        simp only [hushref6_Respond.l0] at H
        by_cases c17 : x10_2 < a1
        ·
         rw [if_pos c17] at H
         have c17b0 : decide (x10_2 < a1) = true := decide_eq_true c17
         clear c17
         by_cases c18 : x10_2 = a2
         ·
          rw [if_pos c18] at H
          have c18b0 : (x10_2 == a2) = true := beq_iff_eq.mpr c18
          have c18b1 : (x10_2 != a2) = false := bne_eq_false_iff_eq.mpr c18
          clear c18
          obtain ⟨y329, hy329⟩ : ∃ y_ : List Int, y_ = (([x10_2] : List Int)) := ⟨_, rfl⟩
          replace H : (if x9_2.length < 4398046511104 then (hushref6_Respond.l0 k2 a1 a2 (x9_2 ++ [(⟨y329, a0_0⟩ : S64)]) (wrap64 (x10_2 + 1)) a0_0 a0_1) else (none)) = some (r1, r2) := by (rw [hy329]; with_reducible exact H)
          have Ny329 := Aside0.mk hy329
          clear hy329
          by_cases c19 : x9_2.length < 4398046511104
          ·
           rw [if_pos c19] at H
           have LMc19 := Aside0.mk c19
           clear c19
           obtain ⟨y332, hy332⟩ : ∃ y_ : List (S64), y_ = (x9_2 ++ [(⟨y329, a0_0⟩ : S64)]) := ⟨_, rfl⟩
           replace H : (hushref6_Respond.l0 k2 a1 a2 y332 (wrap64 (x10_2 + 1)) a0_0 a0_1) = some (r1, r2) := by (rw [hy332]; with_reducible exact H)
           have Ny332 := Aside0.mk hy332
           clear hy332
           have H' := Aside0.mk H
           clear H
           have hcz20_0 := cz0_ BK327
           have hcz20_1 := cz1_ BK327
           have hfz20_0 := blk_frozen BK327.out 0
           have hfz20_1 := blk_frozen BK327.out 1
           go_wp2_with (first | ((with_reducible refine gate_dst (N := 55) rfl ?_); refine Kd.R_lit (Kd.int .i64) _ 3 ?hg (N := 55) ?hd (xs := ([x10_2] : List Int)) (inner := [.int .i64 x10_2]) (ok := fun _ => True) (okp := fun _ => True) ?hr ?hp (fun _ hk => hk) trivial (Below.refl _ _) (Nat.le_refl _) (by simp) ?_; (case hd | hg => rfl); (case hr => go_simp; done); (case hp => exact (Reps.one (show Kd.M (Kd.int .i64) _ _ _ x10_2 [.int .i64 x10_2] from rfl) (Reps.none _ _))); intro v330 w21 ho22 hb hg_ hnew_; clear hg_ hnew_; (rw [← Ny329.out] at ho22); replace HO_9 := Aside0.mk (Kd.N_elder' (by (with_reducible repeat (first | apply Kd.N_alloc | apply Kd.N_drewN | apply Kd.N_drew)); exact HO_9.out) (Kd.R_base ho22) hb); have HO331 := Aside0.mk (Kd.R_lower (Kd.R_newM (M := fun k_ => (w.heap.size ≤ k_)) ho22 (below_size HB.out) (fun k_ h_ => h_)) (below_size HB.out)); replace BK327 := Aside0.mk (blk_below (g := gb327) (o := .cells #[.int .i64 a0_0, .int .i64 a0_1] 23 (0, 0)) (by (with_reducible repeat (first | refine blk_drewN ?_ _ | refine blk_drew ?_ | refine blk_alloc ?_ _)); exact BK327.out) hb); replace HB := Aside0.mk (below_step HB.out hb); clear hb ho22; obtain ⟨Ao23, co23, eo23⟩ := Kd.R_slice HO331.out; subst eo23) | ((with_reducible refine gate_builtin (b := .append) (xs := #[.tmp 53, .tmp 58]) rfl ?_); at_builtin; refine Kd.N_append k64 (w0 := w) w.heap.size rfl (.tmp 53) (.tmp 58) 25 64 (.agg #[(.slice none 0 0), (.int .i64 0)]) 32 rfl Try.underlying25 info64 rfl (by decide) (by omega) u9 x9_2 (⟨y329, a0_0⟩ : S64) [.slice Ao23 y329.length co23, .int .i64 a0_0] (fun k_ => (w.heap.size ≤ k_) ∧ k_ ≠ gb327) (fun k_ => ((fun k_ => (w.heap.size ≤ k_) ∧ k_ ≠ gb327)) k_ ∧ some k_ ≠ (u9 : Value).ownBlock) rfl rfl ?aP (fun _ hk => hk) ?aF ?aO ?aB ?aS ?aL ?_; (case aP => exact (k64_mkF _ _ (⟨y329, a0_0⟩ : S64) (Kd.R_reads' (Kd.R_mono (ok' := (fun k_ => ((fun k_ => (w.heap.size ≤ k_) ∧ k_ ≠ gb327)) k_ ∧ some k_ ≠ (u9 : Value).ownBlock)) (Kd.R_types (Kd.R_apart' (HO331.out) (Kd.N_typed HO_9.out) (by decide)) BK327.out (by decide)) (fun k_ hk => ⟨⟨hk.1.1.1, hk.2⟩, hk.1.2⟩))).2.1 (Kd.R_F (Kd.R_mono (ok' := (fun k_ => ((fun k_ => (w.heap.size ≤ k_) ∧ k_ ≠ gb327)) k_ ∧ some k_ ≠ (u9 : Value).ownBlock)) (Kd.R_types (Kd.R_apart' (HO331.out) (Kd.N_typed HO_9.out) (by decide)) BK327.out (by decide)) (fun k_ hk => ⟨⟨hk.1.1.1, hk.2⟩, hk.1.2⟩))))); (case aB => exact HB.out); (case aF => exact (fun k_ hk => ⟨(Nat.le_trans (below_size HB.out) hk), Kd.freshB (g := gb327) (o := .cells #[.int .i64 a0_0, .int .i64 a0_1] 23 (0, 0)) (by (with_reducible repeat (first | refine blk_drewN ?_ _ | refine blk_drew ?_ | refine blk_alloc ?_ _)); exact BK327.out) k_ hk⟩)); (case aO => exact (by (with_reducible repeat (first | apply Kd.N_alloc | apply Kd.N_drewN | apply Kd.N_drew)); exact Kd.N_mono HO_9.out (fun _ hk => ⟨hk.1.1, hk.1.2⟩))); (case aS => exact (below_size HB.out)); (case aL => have := LMc19.out; omega); intro v333 w24 ho hb hg hat; rw [← Ny332.out] at ho; replace BK327 := Aside0.mk (blk_grown (g := gb327) (o := .cells #[.int .i64 a0_0, .int .i64 a0_1] 23 (0, 0)) (by (with_reducible repeat (first | refine blk_drewN ?_ _ | refine blk_drew ?_ | refine blk_alloc ?_ _)); exact BK327.out) hg (Kd.N_ne HO_9.out BK327.out (by decide))); replace HB := Aside0.mk (hb); have HO334 := Aside0.mk (ho); clear HO_9 HO331; clear ho hb hg hat))
           go_roundg k2
           case measure => have := HJ5.out; have := HK2.out; omega
           case rel => exact ⟨(y332), (wrap64 (x10_2 + 1)), rfl, H', ⟨by have := HJ5.out; have := HK2.out; omega⟩, ⟨by (with_reducible repeat (first | apply Kd.N_alloc | apply Kd.N_drewN | apply Kd.N_drew)); exact HO334.out⟩, ⟨by (with_reducible repeat (first | refine blk_drewN ?_ _ | refine blk_drew ?_ | refine blk_alloc ?_ _)); exact BK327.out⟩, ⟨HB.out⟩⟩
          ·
           rw [if_neg c19] at H
           exact absurd H (by simp)
         ·
          rw [if_neg c18] at H
          have c18b0 : (x10_2 == a2) = false := beq_eq_false_iff_ne.mpr c18
          have c18b1 : (x10_2 != a2) = true := bne_iff_ne.mpr c18
          obtain ⟨y335, hy335⟩ : ∃ y_ : List Int, y_ = (([x10_2] : List Int)) := ⟨_, rfl⟩
          replace H : (if x9_2.length < 4398046511104 then (hushref6_Respond.l0 k2 a1 a2 (x9_2 ++ [(⟨y335, a0_1⟩ : S64)]) (wrap64 (x10_2 + 1)) a0_0 a0_1) else (none)) = some (r1, r2) := by (rw [hy335]; with_reducible exact H)
          have Ny335 := Aside0.mk hy335
          clear hy335
          by_cases c25 : x9_2.length < 4398046511104
          ·
           rw [if_pos c25] at H
           have LMc25 := Aside0.mk c25
           clear c25
           obtain ⟨y338, hy338⟩ : ∃ y_ : List (S64), y_ = (x9_2 ++ [(⟨y335, a0_1⟩ : S64)]) := ⟨_, rfl⟩
           replace H : (hushref6_Respond.l0 k2 a1 a2 y338 (wrap64 (x10_2 + 1)) a0_0 a0_1) = some (r1, r2) := by (rw [hy338]; with_reducible exact H)
           have Ny338 := Aside0.mk hy338
           clear hy338
           have H' := Aside0.mk H
           clear H
           have hcz26_0 := cz0_ BK327
           have hcz26_1 := cz1_ BK327
           have hfz26_0 := blk_frozen BK327.out 0
           have hfz26_1 := blk_frozen BK327.out 1
           go_wp2_with (first | ((with_reducible refine gate_dst (N := 55) rfl ?_); refine Kd.R_lit (Kd.int .i64) _ 3 ?hg (N := 55) ?hd (xs := ([x10_2] : List Int)) (inner := [.int .i64 x10_2]) (ok := fun _ => True) (okp := fun _ => True) ?hr ?hp (fun _ hk => hk) trivial (Below.refl _ _) (Nat.le_refl _) (by simp) ?_; (case hd | hg => rfl); (case hr => go_simp; done); (case hp => exact (Reps.one (show Kd.M (Kd.int .i64) _ _ _ x10_2 [.int .i64 x10_2] from rfl) (Reps.none _ _))); intro v336 w27 ho28 hb hg_ hnew_; clear hg_ hnew_; (rw [← Ny335.out] at ho28); replace HO_9 := Aside0.mk (Kd.N_elder' (by (with_reducible repeat (first | apply Kd.N_alloc | apply Kd.N_drewN | apply Kd.N_drew)); exact HO_9.out) (Kd.R_base ho28) hb); have HO337 := Aside0.mk (Kd.R_lower (Kd.R_newM (M := fun k_ => (w.heap.size ≤ k_)) ho28 (below_size HB.out) (fun k_ h_ => h_)) (below_size HB.out)); replace BK327 := Aside0.mk (blk_below (g := gb327) (o := .cells #[.int .i64 a0_0, .int .i64 a0_1] 23 (0, 0)) (by (with_reducible repeat (first | refine blk_drewN ?_ _ | refine blk_drew ?_ | refine blk_alloc ?_ _)); exact BK327.out) hb); replace HB := Aside0.mk (below_step HB.out hb); clear hb ho28; obtain ⟨Ao29, co29, eo29⟩ := Kd.R_slice HO337.out; subst eo29) | ((with_reducible refine gate_builtin (b := .append) (xs := #[.tmp 53, .tmp 58]) rfl ?_); at_builtin; refine Kd.N_append k64 (w0 := w) w.heap.size rfl (.tmp 53) (.tmp 58) 25 64 (.agg #[(.slice none 0 0), (.int .i64 0)]) 32 rfl Try.underlying25 info64 rfl (by decide) (by omega) u9 x9_2 (⟨y335, a0_1⟩ : S64) [.slice Ao29 y335.length co29, .int .i64 a0_1] (fun k_ => (w.heap.size ≤ k_) ∧ k_ ≠ gb327) (fun k_ => ((fun k_ => (w.heap.size ≤ k_) ∧ k_ ≠ gb327)) k_ ∧ some k_ ≠ (u9 : Value).ownBlock) rfl rfl ?aP (fun _ hk => hk) ?aF ?aO ?aB ?aS ?aL ?_; (case aP => exact (k64_mkF _ _ (⟨y335, a0_1⟩ : S64) (Kd.R_reads' (Kd.R_mono (ok' := (fun k_ => ((fun k_ => (w.heap.size ≤ k_) ∧ k_ ≠ gb327)) k_ ∧ some k_ ≠ (u9 : Value).ownBlock)) (Kd.R_types (Kd.R_apart' (HO337.out) (Kd.N_typed HO_9.out) (by decide)) BK327.out (by decide)) (fun k_ hk => ⟨⟨hk.1.1.1, hk.2⟩, hk.1.2⟩))).2.1 (Kd.R_F (Kd.R_mono (ok' := (fun k_ => ((fun k_ => (w.heap.size ≤ k_) ∧ k_ ≠ gb327)) k_ ∧ some k_ ≠ (u9 : Value).ownBlock)) (Kd.R_types (Kd.R_apart' (HO337.out) (Kd.N_typed HO_9.out) (by decide)) BK327.out (by decide)) (fun k_ hk => ⟨⟨hk.1.1.1, hk.2⟩, hk.1.2⟩))))); (case aB => exact HB.out); (case aF => exact (fun k_ hk => ⟨(Nat.le_trans (below_size HB.out) hk), Kd.freshB (g := gb327) (o := .cells #[.int .i64 a0_0, .int .i64 a0_1] 23 (0, 0)) (by (with_reducible repeat (first | refine blk_drewN ?_ _ | refine blk_drew ?_ | refine blk_alloc ?_ _)); exact BK327.out) k_ hk⟩)); (case aO => exact (by (with_reducible repeat (first | apply Kd.N_alloc | apply Kd.N_drewN | apply Kd.N_drew)); exact Kd.N_mono HO_9.out (fun _ hk => ⟨hk.1.1, hk.1.2⟩))); (case aS => exact (below_size HB.out)); (case aL => have := LMc25.out; omega); intro v339 w30 ho hb hg hat; rw [← Ny338.out] at ho; replace BK327 := Aside0.mk (blk_grown (g := gb327) (o := .cells #[.int .i64 a0_0, .int .i64 a0_1] 23 (0, 0)) (by (with_reducible repeat (first | refine blk_drewN ?_ _ | refine blk_drew ?_ | refine blk_alloc ?_ _)); exact BK327.out) hg (Kd.N_ne HO_9.out BK327.out (by decide))); replace HB := Aside0.mk (hb); have HO340 := Aside0.mk (ho); clear HO_9 HO337; clear ho hb hg hat))
           go_roundg k2
           case measure => have := HJ5.out; have := HK2.out; omega
           case rel => exact ⟨(y338), (wrap64 (x10_2 + 1)), rfl, H', ⟨by have := HJ5.out; have := HK2.out; omega⟩, ⟨by (with_reducible repeat (first | apply Kd.N_alloc | apply Kd.N_drewN | apply Kd.N_drew)); exact HO340.out⟩, ⟨by (with_reducible repeat (first | refine blk_drewN ?_ _ | refine blk_drew ?_ | refine blk_alloc ?_ _)); exact BK327.out⟩, ⟨HB.out⟩⟩
          ·
           rw [if_neg c25] at H
           exact absurd H (by simp)
        ·
         rw [if_neg c17] at H
         have c17b0 : decide (x10_2 < a1) = false := decide_eq_false c17
         clear c17
         obtain ⟨⟨t341, t344⟩, A31, H⟩ := bnd_ H
         dsimp only at H
         simp only [Option.some.injEq, Prod.mk.injEq] at H
         obtain ⟨rfl, rfl⟩ := H
         obtain ⟨Ao32, co32, eo32⟩ := Kd.N_slice HO_9.out
         subst eo32
         go_wp2_with (((with_reducible refine gate_callee (f := 39) rfl ?_); refine goesL_ (some 61) rfl rfl Try.func39 (by kernel_rfl) rfl #[.slice Ao32 x9_2.length co32] rfl (by (try simp only [List.map_toArray, List.map_cons, List.map_nil]); rfl) ?_; (with_reducible refine (hushref2_Make.calls k2 (fun k_ => ((w.heap.size ≤ k_) ∧ k_ ≠ gb327)) _ _ x9_2 t341 t344 _ ?side1 A31.out).mono ?_); (case side1 => exact Kd.N_V (HO_9.out)); rintro e w33 ⟨v342, rfl, ho0, hb⟩; refine ⟨_, rfl, ?_⟩; replace HO_9 := Aside0.mk (Kd.N_elder' (by (with_reducible repeat (first | apply Kd.N_alloc | apply Kd.N_drewN | apply Kd.N_drew)); exact HO_9.out) (Kd.N_base ho0) hb); have HO343 := Aside0.mk (Kd.N_lower (Kd.N_mono (ok' := fun k_ => (w.heap.size ≤ k_) ∧ k_ ≠ gb327) ho0 (fun k_ hk_ => ⟨Or.elim hk_ (fun hs_ => hs_.1) (fun hn_ => (Nat.le_trans (below_size HB.out) hn_)), Or.elim hk_ (fun hs_ => hs_.2) (fun hn_ => (Kd.freshB (g := gb327) (o := .cells #[.int .i64 a0_0, .int .i64 a0_1] 23 (0, 0)) (by (with_reducible repeat (first | refine blk_drewN ?_ _ | refine blk_drew ?_ | refine blk_alloc ?_ _)); exact BK327.out) k_ hn_))⟩)) (below_size HB.out)); replace BK327 := Aside0.mk (blk_below (g := gb327) (o := .cells #[.int .i64 a0_0, .int .i64 a0_1] 23 (0, 0)) (by (with_reducible repeat (first | refine blk_drewN ?_ _ | refine blk_drew ?_ | refine blk_alloc ?_ _)); exact BK327.out) hb); replace HB := Aside0.mk (below_step HB.out hb); (try clear hb); (try clear ho0)))
         go_ret2
         exact ⟨_, rfl, by (with_reducible repeat (first | apply Kd.N_alloc | apply Kd.N_drewN | apply Kd.N_drew)); exact Kd.N_mono HO343.out (fun _ hk => hk.1), HB.out⟩
 ·
  rw [if_neg c5] at H
  have c5b0 : (t328 == 0) = false := beq_eq_false_iff_ne.mpr c5
  have c5b1 : (t328 != 0) = true := bne_iff_ne.mpr c5
  simp only [Option.some.injEq, Prod.mk.injEq] at H
  obtain ⟨rfl, rfl⟩ := H
  go_enter Try.func20, Try.ntmps20
  go_wp2_with (first | ((with_reducible refine gate_dst (N := 3) rfl ?_); refine box_event ?hg (N := 3) ?hd (cs := #[.int .i64 a0_0, .int .i64 a0_1]) (t := 23) ?hr ?_; (case hd | hg => rfl); (case hr => go_simp; done); intro gb327 hg w34 hbox hb; have BK327 := Aside0.mk (hbox); have GW327 := gw_ HB.out hg; have GE327 := gw_ HB.out hg; replace HB := Aside0.mk (below_step HB.out hb); clear hb hbox hg; have hcz35_0 := cz0_ BK327; have hcz35_1 := cz1_ BK327; have hfz35_0 := blk_frozen BK327.out 0; have hfz35_1 := blk_frozen BK327.out 1) | ((with_reducible refine gate_callee (f := 38) rfl ?_); refine goesL_ (some 13) rfl rfl Try.func38 (by kernel_rfl) rfl #[.agg #[.int .i64 a0_0, .int .i64 a0_1]] rfl (by (try simp only [List.map_toArray, List.map_cons, List.map_nil]); rfl) ?_; (with_reducible refine (hushref6_Loss.calls k a0_0 a0_1 t328 _ A4.out).mono ?_); rintro e w36 ⟨rfl, hb⟩; refine ⟨_, rfl, ?_⟩; replace BK327 := Aside0.mk (blk_below (g := gb327) (o := .cells #[.int .i64 a0_0, .int .i64 a0_1] 23 (0, 0)) (by (with_reducible repeat (first | refine blk_drewN ?_ _ | refine blk_drew ?_ | refine blk_alloc ?_ _)); exact BK327.out) hb); replace HB := Aside0.mk (below_step HB.out hb); (try clear hb)))
  go_ret2
  exact ⟨_, rfl, by exact Kd.N_nil _ _ _ _ _, HB.out⟩

end Go.Proofs.Ytjbgnlhgjgnclaa.PB


/- Functions of the program in Lean, by wip/xprint.py. Conditions: in each theorem. -/
import Derived.Test.YtjbgnlhgjgnclaaPBxs
import Derived.Test.YtjbgnlhgjgnclaaPBx0
import Derived.Test.YtjbgnlhgjgnclaaPBx8
import Derived.Test.YtjbgnlhgjgnclaaPBx9
import Derived.Test.YtjbgnlhgjgnclaaPBx16
namespace Go.Proofs.Ytjbgnlhgjgnclaa.PB
open Go.RowKit Go.Proofs.YtjbgnlhgjgnclaaW.PrintWords Go.Proofs.YtjbgnlhgjgnclaaW.PrintLast Go.Proofs.YtjbgnlhgjgnclaaW.PrintMore
attribute [local go_sem] max2_int min2_int max_two min_two max_three min_three max_four min_four   -- for this text's walks alone
set_option linter.unusedVariables false
set_option linter.unusedSimpArgs false

/-! ### noise_HideAll: function 14 -/
def noise_HideAll.l0 : Nat → Int → Int → List (List (S64)) → List Int → Int → Int → Int → Int → Option ((List (List (S64))) × Int)
 | 0, _, _, _, _, _, _, _, _ => none
 | k + 1, x1, x2, x10, x15, x16, x17, x260000, x260001 => if x17 < x16 then (if 0 ≤ x17 then (if x17 < (x15.length : Int) then ((noise_Hide.f k x260000 x260001 x1 x2 (rd x15 x17)).bind fun bt261 => (if bt261.2 = 0 then (if x10.length < 5864062014805 then (noise_HideAll.l0 k x1 x2 (x10 ++ [bt261.1]) x15 x16 (wrap64 (x17 + 1)) x260000 x260001) else (none)) else (some (([] : List (List (S64))), bt261.2)))) else (none)) else (none)) else (some (x10, 0))
def noise_HideAll.f (k : Nat) (a0_0 : Int) (a0_1 : Int) (a1 : Int) (a2 : Int) (l3 : List Int) : Option ((List (List (S64))) × Int) := noise_HideAll.l0 k a1 a2 ([] : List (List (S64))) l3 (l3.length : Int) 0 a0_0 a0_1
theorem noise_HideAll.mono_l : ∀ k, (∀ y0 y1 y2 y3 y4 y5 y6 y7, LeO (noise_HideAll.l0 k y0 y1 y2 y3 y4 y5 y6 y7) (noise_HideAll.l0 (k + 1) y0 y1 y2 y3 y4 y5 y6 y7))
 | 0 => fun _ _ _ _ _ _ _ _ r h => by simp [noise_HideAll.l0] at h
 | k + 1 => by
  have ih0 := noise_HideAll.mono_l k
  ·
   intro y0 y1 y2 y3 y4 y5 y6 y7
   unfold noise_HideAll.l0
   repeat' first
   | (with_reducible exact ih0 _ _ _ _ _ _ _ _)
   | (with_reducible exact noise_Hide.mono _ _ _ _ _ _)
   | (with_reducible exact LeO.refl _)
   | (with_reducible refine LeO.ite ?_ ?_)
   | (with_reducible refine LeO.bind ?_ (fun _ => ?_))
theorem noise_HideAll.mono : ∀ a0 a1 a2 a3 a4 k, LeO (noise_HideAll.f k a0 a1 a2 a3 a4) (noise_HideAll.f (k + 1) a0 a1 a2 a3 a4) := by
 intro a0 a1 a2 a3 a4 k
 have ih0 := noise_HideAll.mono_l k
 unfold noise_HideAll.f
 repeat' (with_reducible exact ih0 _ _ _ _ _ _ _ _)
set_option maxHeartbeats 8000000 in
set_option maxRecDepth 100000 in
theorem noise_HideAll.calls (k : Nat) (a0_0 : Int) (a0_1 : Int) (a1 : Int) (a2 : Int) (A3 : Option Addr) (c3 : Nat) (l3 : List Int) (r1 : List (List (S64))) (r2 : Int) (w : World) (hr3 : Kd.C (Kd.int .i64) w A3 l3.length l3) (hc3 : l3.length ≤ c3) (h : noise_HideAll.f k a0_0 a0_1 a1 a2 l3 = some (r1, r2)) :
  Calls Try.prog 14 #[.agg #[.int .i64 a0_0, .int .i64 a0_1], .int .i64 a1, .int .i64 a2, .slice A3 l3.length c3] w fun e w' => ∃ v0_ : Value, e = .returned (.tuple #[v0_, .int .i64 r2]) ∧ Kd.N (Kd.slice 64 k64) 26 w' w.heap.size (fun k_ => (w.heap.size ≤ k_)) v0_ r1 ∧ Below w.heap.size w w' := by
 have hu23 := Try.underlying23
 have HR3 := Aside0.mk hr3
 have HC3 := Aside0.mk hc3
 clear hr3 hc3
 have HB := Aside0.mk (Below.refl w.heap.size w)
 have H : (noise_HideAll.l0 k a1 a2 ([] : List (List (S64))) l3 (l3.length : Int) 0 a0_0 a0_1) = some (r1, r2) := h
 clear h
 have H' := Aside0.mk H
 clear H
 go_enter Try.func14, Try.ntmps14
 go_wp2_with (((with_reducible refine gate_dst (N := 4) rfl ?_); refine box_event ?hg (N := 4) ?hd (cs := #[.int .i64 a0_0, .int .i64 a0_1]) (t := 23) ?hr ?_; (case hd | hg => rfl); (case hr => go_simp; done); intro gb259 hg w5 hbox hb; have BK259 := Aside0.mk (hbox); have GW259 := gw_ HB.out hg; have GE259 := gw_ HB.out hg; replace HB := Aside0.mk (below_step HB.out hb); clear hb hbox hg))
 go_loopg [10, 17] k (fun kq v10 v17 w' => ∃ (x10_1 : List (List (S64))) (x17_1 : Int), v17 = .int .i64 x17_1 ∧ Aside0 (noise_HideAll.l0 kq a1 a2 x10_1 l3 (l3.length : Int) x17_1 a0_0 a0_1 = some (r1, r2)) ∧ Aside0 (kq ≤ k) ∧ Aside0 (Kd.N (Kd.slice 64 k64) 26 w' w.heap.size (fun k_ => (w.heap.size ≤ k_) ∧ k_ ≠ gb259) v10 x10_1) ∧ Aside0 (w'.heap[gb259]? = some (.cells #[.int .i64 a0_0, .int .i64 a0_1] 23 (0, 0))) ∧ Aside0 (Below w.heap.size w w'))
 case atStart => exact ⟨(([] : List (List (S64)))), (0), rfl, H', ⟨Nat.le_refl _⟩, ⟨by exact Kd.N_nil _ _ _ _ _⟩, ⟨by (with_reducible repeat (first | refine blk_drewN ?_ _ | refine blk_drew ?_ | refine blk_alloc ?_ _)); exact BK259.out⟩, ⟨HB.out⟩⟩
 case round =>
  clear H'
  obtain ⟨x10_1, x17_1, rfl, HA, HK1, HO_10, BK259, HB⟩ := hrel
  cases gk with
  | zero => exact absurd HA.out (by simp [noise_HideAll.l0])
  | succ k1 =>
   have H := HA.out
   clear HA
   simp only [noise_HideAll.l0] at H
   by_cases c6 : x17_1 < (l3.length : Int)
   ·
    rw [if_pos c6] at H
    have c6b0 : decide (x17_1 < (l3.length : Int)) = true := decide_eq_true c6
    clear c6
    by_cases c7 : 0 ≤ x17_1
    ·
     rw [if_pos c7] at H
     have c7b0 : decide (0 ≤ x17_1) = true := decide_eq_true c7
     clear c7
     by_cases c8 : x17_1 < (l3.length : Int)
     ·
      rw [if_pos c8] at H
      have c8b0 : decide (x17_1 < (l3.length : Int)) = true := decide_eq_true c8
      clear c8
      obtain ⟨⟨t261, t264⟩, A9, H⟩ := bnd_ H
      dsimp only at H
      by_cases c10 : t264 = 0
      ·
       rw [if_pos c10] at H
       have c10b0 : (t264 == 0) = true := beq_iff_eq.mpr c10
       have c10b1 : (t264 != 0) = false := bne_eq_false_iff_eq.mpr c10
       clear c10
       by_cases c11 : x10_1.length < 5864062014805
       ·
        rw [if_pos c11] at H
        have LMc11 := Aside0.mk c11
        clear c11
        obtain ⟨y265, hy265⟩ : ∃ y_ : List (List (S64)), y_ = (x10_1 ++ [t261]) := ⟨_, rfl⟩
        replace H : (noise_HideAll.l0 k1 a1 a2 y265 l3 (l3.length : Int) (wrap64 (x17_1 + 1)) a0_0 a0_1) = some (r1, r2) := by (rw [hy265]; with_reducible exact H)
        have Ny265 := Aside0.mk hy265
        clear hy265
        have H' := Aside0.mk H
        clear H
        have p260 : 0 ≤ (x17_1 : Int) := of_decide_eq_true (by (with_reducible assumption))
        have q260 : x17_1 < (l3.length : Int) := of_decide_eq_true (by (with_reducible assumption))
        obtain ⟨ad260, e260, hx260_0⟩ := Kd.at_int HR3.out x17_1 p260 q260
        cases e260
        replace hx260_0 := (HB.out.cell (World.block_lt_of_cell? w _ hx260_0)).trans hx260_0
        replace p260 := eq_true p260
        replace q260 := eq_true q260
        have hcz12_0 := cz0_ BK259
        have hcz12_1 := cz1_ BK259
        have hfz12_0 := blk_frozen BK259.out 0
        have hfz12_1 := blk_frozen BK259.out 1
        go_wp2_with (first | ((with_reducible refine gate_callee (f := 9) rfl ?_); refine goesL_ (some 26) rfl rfl Try.func9 (by kernel_rfl) rfl #[.agg #[.int .i64 a0_0, .int .i64 a0_1], .int .i64 a1, .int .i64 a2, .int .i64 (rd l3 x17_1)] rfl (by (try simp only [List.map_toArray, List.map_cons, List.map_nil]); rfl) ?_; (with_reducible refine (noise_Hide.calls k1 a0_0 a0_1 a1 a2 (rd l3 x17_1) t261 t264 _ A9.out).mono ?_); rintro e w13 ⟨v262, rfl, ho0, hb⟩; refine ⟨_, rfl, ?_⟩; have HO263 := Aside0.mk (Kd.N_lower (Kd.N_mono (ok' := fun k_ => (w.heap.size ≤ k_) ∧ some k_ ≠ (u10 : Value).ownBlock ∧ k_ ≠ gb259) ho0 (fun k_ hk_ => ⟨(Nat.le_trans (below_size HB.out) hk_), (Kd.fresh' (Kd.N_lt (by (with_reducible repeat (first | apply Kd.N_alloc | apply Kd.N_drewN | apply Kd.N_drew)); exact HO_10.out)) k_ hk_), (Kd.freshB (g := gb259) (o := .cells #[.int .i64 a0_0, .int .i64 a0_1] 23 (0, 0)) (by (with_reducible repeat (first | refine blk_drewN ?_ _ | refine blk_drew ?_ | refine blk_alloc ?_ _)); exact BK259.out) k_ hk_)⟩)) (below_size HB.out)); replace HO_10 := Aside0.mk (Kd.N_elder' (by (with_reducible repeat (first | apply Kd.N_alloc | apply Kd.N_drewN | apply Kd.N_drew)); exact HO_10.out) (Kd.N_base ho0) hb); replace BK259 := Aside0.mk (blk_below (g := gb259) (o := .cells #[.int .i64 a0_0, .int .i64 a0_1] 23 (0, 0)) (by (with_reducible repeat (first | refine blk_drewN ?_ _ | refine blk_drew ?_ | refine blk_alloc ?_ _)); exact BK259.out) hb); replace HB := Aside0.mk (below_step HB.out hb); (try clear hb); (try clear ho0); obtain ⟨Ao15, co15, eo15⟩ := Kd.N_slice HO263.out; subst eo15) | ((with_reducible refine gate_builtin (b := .append) (xs := #[.tmp 32, .tmp 34]) rfl ?_); at_builtin; refine Kd.N_append (Kd.slice 64 k64) (w0 := w) w.heap.size rfl (.tmp 32) (.tmp 34) 36 26 (.slice none 0 0) 24 rfl Try.underlying36 info26 rfl (by decide) (by omega) u10 x10_1 t261 [.slice Ao15 t261.length co15] (fun k_ => (w.heap.size ≤ k_) ∧ k_ ≠ gb259) (fun k_ => ((fun k_ => (w.heap.size ≤ k_) ∧ k_ ≠ gb259)) k_ ∧ some k_ ≠ (u10 : Value).ownBlock) rfl rfl ?aP (fun _ hk => hk) ?aF ?aO ?aB ?aS ?aL ?_; (case aP => exact (Kd.FK_slice_mk (Kd.N_reads' (Kd.N_mono (ok' := (fun k_ => ((fun k_ => (w.heap.size ≤ k_) ∧ k_ ≠ gb259)) k_ ∧ some k_ ≠ (u10 : Value).ownBlock)) (HO263.out) (fun k_ hk => ⟨⟨hk.1, hk.2.2⟩, hk.2.1⟩))).2.1 (Kd.N_F (Kd.N_mono (ok' := (fun k_ => ((fun k_ => (w.heap.size ≤ k_) ∧ k_ ≠ gb259)) k_ ∧ some k_ ≠ (u10 : Value).ownBlock)) (HO263.out) (fun k_ hk => ⟨⟨hk.1, hk.2.2⟩, hk.2.1⟩))))); (case aB => exact HB.out); (case aF => exact (fun k_ hk => ⟨(Nat.le_trans (below_size HB.out) hk), Kd.freshB (g := gb259) (o := .cells #[.int .i64 a0_0, .int .i64 a0_1] 23 (0, 0)) (by (with_reducible repeat (first | refine blk_drewN ?_ _ | refine blk_drew ?_ | refine blk_alloc ?_ _)); exact BK259.out) k_ hk⟩)); (case aO => exact (by (with_reducible repeat (first | apply Kd.N_alloc | apply Kd.N_drewN | apply Kd.N_drew)); exact Kd.N_mono HO_10.out (fun _ hk => ⟨hk.1.1, hk.1.2⟩))); (case aS => exact (below_size HB.out)); (case aL => have := LMc11.out; omega); intro v266 w14 ho hb hg hat; rw [← Ny265.out] at ho; replace BK259 := Aside0.mk (blk_grown (g := gb259) (o := .cells #[.int .i64 a0_0, .int .i64 a0_1] 23 (0, 0)) (by (with_reducible repeat (first | refine blk_drewN ?_ _ | refine blk_drew ?_ | refine blk_alloc ?_ _)); exact BK259.out) hg (Kd.N_ne HO_10.out BK259.out (by decide))); replace HB := Aside0.mk (hb); have HO267 := Aside0.mk (ho); clear HO_10 HO263; clear ho hb hg hat))
        go_roundg k1
        case measure => have := HK1.out; omega
        case rel => exact ⟨(y265), (wrap64 (x17_1 + 1)), rfl, H', ⟨by have := HK1.out; omega⟩, ⟨by (with_reducible repeat (first | apply Kd.N_alloc | apply Kd.N_drewN | apply Kd.N_drew)); exact HO267.out⟩, ⟨by (with_reducible repeat (first | refine blk_drewN ?_ _ | refine blk_drew ?_ | refine blk_alloc ?_ _)); exact BK259.out⟩, ⟨HB.out⟩⟩
       ·
        rw [if_neg c11] at H
        exact absurd H (by simp)
      ·
       rw [if_neg c10] at H
       have c10b0 : (t264 == 0) = false := beq_eq_false_iff_ne.mpr c10
       have c10b1 : (t264 != 0) = true := bne_iff_ne.mpr c10
       simp only [Option.some.injEq, Prod.mk.injEq] at H
       obtain ⟨rfl, rfl⟩ := H
       have p260 : 0 ≤ (x17_1 : Int) := of_decide_eq_true (by (with_reducible assumption))
       have q260 : x17_1 < (l3.length : Int) := of_decide_eq_true (by (with_reducible assumption))
       obtain ⟨ad260, e260, hx260_0⟩ := Kd.at_int HR3.out x17_1 p260 q260
       cases e260
       replace hx260_0 := (HB.out.cell (World.block_lt_of_cell? w _ hx260_0)).trans hx260_0
       replace p260 := eq_true p260
       replace q260 := eq_true q260
       have hcz16_0 := cz0_ BK259
       have hcz16_1 := cz1_ BK259
       have hfz16_0 := blk_frozen BK259.out 0
       have hfz16_1 := blk_frozen BK259.out 1
       go_wp2_with (((with_reducible refine gate_callee (f := 9) rfl ?_); refine goesL_ (some 26) rfl rfl Try.func9 (by kernel_rfl) rfl #[.agg #[.int .i64 a0_0, .int .i64 a0_1], .int .i64 a1, .int .i64 a2, .int .i64 (rd l3 x17_1)] rfl (by (try simp only [List.map_toArray, List.map_cons, List.map_nil]); rfl) ?_; (with_reducible refine (noise_Hide.calls k1 a0_0 a0_1 a1 a2 (rd l3 x17_1) t261 t264 _ A9.out).mono ?_); rintro e w17 ⟨v262, rfl, ho0, hb⟩; refine ⟨_, rfl, ?_⟩; have HO263 := Aside0.mk (Kd.N_lower (Kd.N_mono (ok' := fun k_ => (w.heap.size ≤ k_) ∧ some k_ ≠ (u10 : Value).ownBlock ∧ k_ ≠ gb259) ho0 (fun k_ hk_ => ⟨(Nat.le_trans (below_size HB.out) hk_), (Kd.fresh' (Kd.N_lt (by (with_reducible repeat (first | apply Kd.N_alloc | apply Kd.N_drewN | apply Kd.N_drew)); exact HO_10.out)) k_ hk_), (Kd.freshB (g := gb259) (o := .cells #[.int .i64 a0_0, .int .i64 a0_1] 23 (0, 0)) (by (with_reducible repeat (first | refine blk_drewN ?_ _ | refine blk_drew ?_ | refine blk_alloc ?_ _)); exact BK259.out) k_ hk_)⟩)) (below_size HB.out)); replace HO_10 := Aside0.mk (Kd.N_elder' (by (with_reducible repeat (first | apply Kd.N_alloc | apply Kd.N_drewN | apply Kd.N_drew)); exact HO_10.out) (Kd.N_base ho0) hb); replace BK259 := Aside0.mk (blk_below (g := gb259) (o := .cells #[.int .i64 a0_0, .int .i64 a0_1] 23 (0, 0)) (by (with_reducible repeat (first | refine blk_drewN ?_ _ | refine blk_drew ?_ | refine blk_alloc ?_ _)); exact BK259.out) hb); replace HB := Aside0.mk (below_step HB.out hb); (try clear hb); (try clear ho0)))
       go_ret2
       exact ⟨_, rfl, by exact Kd.N_nil _ _ _ _ _, HB.out⟩
     ·
      rw [if_neg c8] at H
      exact absurd H (by simp)
    ·
     rw [if_neg c7] at H
     exact absurd H (by simp)
   ·
    rw [if_neg c6] at H
    have c6b0 : decide (x17_1 < (l3.length : Int)) = false := decide_eq_false c6
    clear c6
    simp only [Option.some.injEq, Prod.mk.injEq] at H
    obtain ⟨rfl, rfl⟩ := H
    go_wp2
    go_ret2
    exact ⟨_, rfl, by (with_reducible repeat (first | apply Kd.N_alloc | apply Kd.N_drewN | apply Kd.N_drew)); exact Kd.N_mono HO_10.out (fun _ hk => hk.1), HB.out⟩

/-! ### hushref6_HideAll: function 15 -/
def hushref6_HideAll.l0 : Nat → Int → Int → List (List (S64)) → List Int → Int → Int → Int → Int → Option ((List (List (S64))) × Int)
 | 0, _, _, _, _, _, _, _, _ => none
 | k + 1, x1, x2, x10, x15, x16, x17, x269000, x269001 => if x17 < x16 then (if 0 ≤ x17 then (if x17 < (x15.length : Int) then ((hushref6_Hide.f k x269000 x269001 x1 x2 (rd x15 x17)).bind fun bt270 => (if bt270.2 = 0 then (if x10.length < 5864062014805 then (hushref6_HideAll.l0 k x1 x2 (x10 ++ [bt270.1]) x15 x16 (wrap64 (x17 + 1)) x269000 x269001) else (none)) else (some (([] : List (List (S64))), bt270.2)))) else (none)) else (none)) else (some (x10, 0))
def hushref6_HideAll.f (k : Nat) (a0_0 : Int) (a0_1 : Int) (a1 : Int) (a2 : Int) (l3 : List Int) : Option ((List (List (S64))) × Int) := hushref6_HideAll.l0 k a1 a2 ([] : List (List (S64))) l3 (l3.length : Int) 0 a0_0 a0_1
theorem hushref6_HideAll.mono_l : ∀ k, (∀ y0 y1 y2 y3 y4 y5 y6 y7, LeO (hushref6_HideAll.l0 k y0 y1 y2 y3 y4 y5 y6 y7) (hushref6_HideAll.l0 (k + 1) y0 y1 y2 y3 y4 y5 y6 y7))
 | 0 => fun _ _ _ _ _ _ _ _ r h => by simp [hushref6_HideAll.l0] at h
 | k + 1 => by
  have ih0 := hushref6_HideAll.mono_l k
  ·
   intro y0 y1 y2 y3 y4 y5 y6 y7
   unfold hushref6_HideAll.l0
   repeat' first
   | (with_reducible exact ih0 _ _ _ _ _ _ _ _)
   | (with_reducible exact hushref6_Hide.mono _ _ _ _ _ _)
   | (with_reducible exact LeO.refl _)
   | (with_reducible refine LeO.ite ?_ ?_)
   | (with_reducible refine LeO.bind ?_ (fun _ => ?_))
theorem hushref6_HideAll.mono : ∀ a0 a1 a2 a3 a4 k, LeO (hushref6_HideAll.f k a0 a1 a2 a3 a4) (hushref6_HideAll.f (k + 1) a0 a1 a2 a3 a4) := by
 intro a0 a1 a2 a3 a4 k
 have ih0 := hushref6_HideAll.mono_l k
 unfold hushref6_HideAll.f
 repeat' (with_reducible exact ih0 _ _ _ _ _ _ _ _)
set_option maxHeartbeats 8000000 in
set_option maxRecDepth 100000 in
theorem hushref6_HideAll.calls (k : Nat) (a0_0 : Int) (a0_1 : Int) (a1 : Int) (a2 : Int) (A3 : Option Addr) (c3 : Nat) (l3 : List Int) (r1 : List (List (S64))) (r2 : Int) (w : World) (hr3 : Kd.C (Kd.int .i64) w A3 l3.length l3) (hc3 : l3.length ≤ c3) (h : hushref6_HideAll.f k a0_0 a0_1 a1 a2 l3 = some (r1, r2)) :
  Calls Try.prog 15 #[.agg #[.int .i64 a0_0, .int .i64 a0_1], .int .i64 a1, .int .i64 a2, .slice A3 l3.length c3] w fun e w' => ∃ v0_ : Value, e = .returned (.tuple #[v0_, .int .i64 r2]) ∧ Kd.N (Kd.slice 64 k64) 26 w' w.heap.size (fun k_ => (w.heap.size ≤ k_)) v0_ r1 ∧ Below w.heap.size w w' := by
 have hu23 := Try.underlying23
 have HR3 := Aside0.mk hr3
 have HC3 := Aside0.mk hc3
 clear hr3 hc3
 have HB := Aside0.mk (Below.refl w.heap.size w)
 have H : (hushref6_HideAll.l0 k a1 a2 ([] : List (List (S64))) l3 (l3.length : Int) 0 a0_0 a0_1) = some (r1, r2) := h
 clear h
 have H' := Aside0.mk H
 clear H
 go_enter Try.func15, Try.ntmps15
 go_wp2_with (((with_reducible refine gate_dst (N := 4) rfl ?_); refine box_event ?hg (N := 4) ?hd (cs := #[.int .i64 a0_0, .int .i64 a0_1]) (t := 23) ?hr ?_; (case hd | hg => rfl); (case hr => go_simp; done); intro gb268 hg w5 hbox hb; have BK268 := Aside0.mk (hbox); have GW268 := gw_ HB.out hg; have GE268 := gw_ HB.out hg; replace HB := Aside0.mk (below_step HB.out hb); clear hb hbox hg))
 go_loopg [10, 17] k (fun kq v10 v17 w' => ∃ (x10_1 : List (List (S64))) (x17_1 : Int), v17 = .int .i64 x17_1 ∧ Aside0 (hushref6_HideAll.l0 kq a1 a2 x10_1 l3 (l3.length : Int) x17_1 a0_0 a0_1 = some (r1, r2)) ∧ Aside0 (kq ≤ k) ∧ Aside0 (Kd.N (Kd.slice 64 k64) 26 w' w.heap.size (fun k_ => (w.heap.size ≤ k_) ∧ k_ ≠ gb268) v10 x10_1) ∧ Aside0 (w'.heap[gb268]? = some (.cells #[.int .i64 a0_0, .int .i64 a0_1] 23 (0, 0))) ∧ Aside0 (Below w.heap.size w w'))
 case atStart => exact ⟨(([] : List (List (S64)))), (0), rfl, H', ⟨Nat.le_refl _⟩, ⟨by exact Kd.N_nil _ _ _ _ _⟩, ⟨by (with_reducible repeat (first | refine blk_drewN ?_ _ | refine blk_drew ?_ | refine blk_alloc ?_ _)); exact BK268.out⟩, ⟨HB.out⟩⟩
 case round =>
  clear H'
  obtain ⟨x10_1, x17_1, rfl, HA, HK1, HO_10, BK268, HB⟩ := hrel
  cases gk with
  | zero => exact absurd HA.out (by simp [hushref6_HideAll.l0])
  | succ k1 =>
   have H := HA.out
   clear HA
   simp only [hushref6_HideAll.l0] at H
   by_cases c6 : x17_1 < (l3.length : Int)
   ·
    rw [if_pos c6] at H
    have c6b0 : decide (x17_1 < (l3.length : Int)) = true := decide_eq_true c6
    clear c6
    by_cases c7 : 0 ≤ x17_1
    ·
     rw [if_pos c7] at H
     have c7b0 : decide (0 ≤ x17_1) = true := decide_eq_true c7
     clear c7
     by_cases c8 : x17_1 < (l3.length : Int)
     ·
      rw [if_pos c8] at H
      have c8b0 : decide (x17_1 < (l3.length : Int)) = true := decide_eq_true c8
      clear c8
      obtain ⟨⟨t270, t273⟩, A9, H⟩ := bnd_ H
      dsimp only at H
      by_cases c10 : t273 = 0
      ·
       rw [if_pos c10] at H
       have c10b0 : (t273 == 0) = true := beq_iff_eq.mpr c10
       have c10b1 : (t273 != 0) = false := bne_eq_false_iff_eq.mpr c10
       clear c10
       by_cases c11 : x10_1.length < 5864062014805
       ·
        rw [if_pos c11] at H
        have LMc11 := Aside0.mk c11
        clear c11
        obtain ⟨y274, hy274⟩ : ∃ y_ : List (List (S64)), y_ = (x10_1 ++ [t270]) := ⟨_, rfl⟩
        replace H : (hushref6_HideAll.l0 k1 a1 a2 y274 l3 (l3.length : Int) (wrap64 (x17_1 + 1)) a0_0 a0_1) = some (r1, r2) := by (rw [hy274]; with_reducible exact H)
        have Ny274 := Aside0.mk hy274
        clear hy274
        have H' := Aside0.mk H
        clear H
        have p269 : 0 ≤ (x17_1 : Int) := of_decide_eq_true (by (with_reducible assumption))
        have q269 : x17_1 < (l3.length : Int) := of_decide_eq_true (by (with_reducible assumption))
        obtain ⟨ad269, e269, hx269_0⟩ := Kd.at_int HR3.out x17_1 p269 q269
        cases e269
        replace hx269_0 := (HB.out.cell (World.block_lt_of_cell? w _ hx269_0)).trans hx269_0
        replace p269 := eq_true p269
        replace q269 := eq_true q269
        have hcz12_0 := cz0_ BK268
        have hcz12_1 := cz1_ BK268
        have hfz12_0 := blk_frozen BK268.out 0
        have hfz12_1 := blk_frozen BK268.out 1
        go_wp2_with (first | ((with_reducible refine gate_callee (f := 13) rfl ?_); refine goesL_ (some 26) rfl rfl Try.func13 (by kernel_rfl) rfl #[.agg #[.int .i64 a0_0, .int .i64 a0_1], .int .i64 a1, .int .i64 a2, .int .i64 (rd l3 x17_1)] rfl (by (try simp only [List.map_toArray, List.map_cons, List.map_nil]); rfl) ?_; (with_reducible refine (hushref6_Hide.calls k1 a0_0 a0_1 a1 a2 (rd l3 x17_1) t270 t273 _ A9.out).mono ?_); rintro e w13 ⟨v271, rfl, ho0, hb⟩; refine ⟨_, rfl, ?_⟩; have HO272 := Aside0.mk (Kd.N_lower (Kd.N_mono (ok' := fun k_ => (w.heap.size ≤ k_) ∧ some k_ ≠ (u10 : Value).ownBlock ∧ k_ ≠ gb268) ho0 (fun k_ hk_ => ⟨(Nat.le_trans (below_size HB.out) hk_), (Kd.fresh' (Kd.N_lt (by (with_reducible repeat (first | apply Kd.N_alloc | apply Kd.N_drewN | apply Kd.N_drew)); exact HO_10.out)) k_ hk_), (Kd.freshB (g := gb268) (o := .cells #[.int .i64 a0_0, .int .i64 a0_1] 23 (0, 0)) (by (with_reducible repeat (first | refine blk_drewN ?_ _ | refine blk_drew ?_ | refine blk_alloc ?_ _)); exact BK268.out) k_ hk_)⟩)) (below_size HB.out)); replace HO_10 := Aside0.mk (Kd.N_elder' (by (with_reducible repeat (first | apply Kd.N_alloc | apply Kd.N_drewN | apply Kd.N_drew)); exact HO_10.out) (Kd.N_base ho0) hb); replace BK268 := Aside0.mk (blk_below (g := gb268) (o := .cells #[.int .i64 a0_0, .int .i64 a0_1] 23 (0, 0)) (by (with_reducible repeat (first | refine blk_drewN ?_ _ | refine blk_drew ?_ | refine blk_alloc ?_ _)); exact BK268.out) hb); replace HB := Aside0.mk (below_step HB.out hb); (try clear hb); (try clear ho0); obtain ⟨Ao15, co15, eo15⟩ := Kd.N_slice HO272.out; subst eo15) | ((with_reducible refine gate_builtin (b := .append) (xs := #[.tmp 32, .tmp 34]) rfl ?_); at_builtin; refine Kd.N_append (Kd.slice 64 k64) (w0 := w) w.heap.size rfl (.tmp 32) (.tmp 34) 36 26 (.slice none 0 0) 24 rfl Try.underlying36 info26 rfl (by decide) (by omega) u10 x10_1 t270 [.slice Ao15 t270.length co15] (fun k_ => (w.heap.size ≤ k_) ∧ k_ ≠ gb268) (fun k_ => ((fun k_ => (w.heap.size ≤ k_) ∧ k_ ≠ gb268)) k_ ∧ some k_ ≠ (u10 : Value).ownBlock) rfl rfl ?aP (fun _ hk => hk) ?aF ?aO ?aB ?aS ?aL ?_; (case aP => exact (Kd.FK_slice_mk (Kd.N_reads' (Kd.N_mono (ok' := (fun k_ => ((fun k_ => (w.heap.size ≤ k_) ∧ k_ ≠ gb268)) k_ ∧ some k_ ≠ (u10 : Value).ownBlock)) (HO272.out) (fun k_ hk => ⟨⟨hk.1, hk.2.2⟩, hk.2.1⟩))).2.1 (Kd.N_F (Kd.N_mono (ok' := (fun k_ => ((fun k_ => (w.heap.size ≤ k_) ∧ k_ ≠ gb268)) k_ ∧ some k_ ≠ (u10 : Value).ownBlock)) (HO272.out) (fun k_ hk => ⟨⟨hk.1, hk.2.2⟩, hk.2.1⟩))))); (case aB => exact HB.out); (case aF => exact (fun k_ hk => ⟨(Nat.le_trans (below_size HB.out) hk), Kd.freshB (g := gb268) (o := .cells #[.int .i64 a0_0, .int .i64 a0_1] 23 (0, 0)) (by (with_reducible repeat (first | refine blk_drewN ?_ _ | refine blk_drew ?_ | refine blk_alloc ?_ _)); exact BK268.out) k_ hk⟩)); (case aO => exact (by (with_reducible repeat (first | apply Kd.N_alloc | apply Kd.N_drewN | apply Kd.N_drew)); exact Kd.N_mono HO_10.out (fun _ hk => ⟨hk.1.1, hk.1.2⟩))); (case aS => exact (below_size HB.out)); (case aL => have := LMc11.out; omega); intro v275 w14 ho hb hg hat; rw [← Ny274.out] at ho; replace BK268 := Aside0.mk (blk_grown (g := gb268) (o := .cells #[.int .i64 a0_0, .int .i64 a0_1] 23 (0, 0)) (by (with_reducible repeat (first | refine blk_drewN ?_ _ | refine blk_drew ?_ | refine blk_alloc ?_ _)); exact BK268.out) hg (Kd.N_ne HO_10.out BK268.out (by decide))); replace HB := Aside0.mk (hb); have HO276 := Aside0.mk (ho); clear HO_10 HO272; clear ho hb hg hat))
        go_roundg k1
        case measure => have := HK1.out; omega
        case rel => exact ⟨(y274), (wrap64 (x17_1 + 1)), rfl, H', ⟨by have := HK1.out; omega⟩, ⟨by (with_reducible repeat (first | apply Kd.N_alloc | apply Kd.N_drewN | apply Kd.N_drew)); exact HO276.out⟩, ⟨by (with_reducible repeat (first | refine blk_drewN ?_ _ | refine blk_drew ?_ | refine blk_alloc ?_ _)); exact BK268.out⟩, ⟨HB.out⟩⟩
       ·
        rw [if_neg c11] at H
        exact absurd H (by simp)
      ·
       rw [if_neg c10] at H
       have c10b0 : (t273 == 0) = false := beq_eq_false_iff_ne.mpr c10
       have c10b1 : (t273 != 0) = true := bne_iff_ne.mpr c10
       simp only [Option.some.injEq, Prod.mk.injEq] at H
       obtain ⟨rfl, rfl⟩ := H
       have p269 : 0 ≤ (x17_1 : Int) := of_decide_eq_true (by (with_reducible assumption))
       have q269 : x17_1 < (l3.length : Int) := of_decide_eq_true (by (with_reducible assumption))
       obtain ⟨ad269, e269, hx269_0⟩ := Kd.at_int HR3.out x17_1 p269 q269
       cases e269
       replace hx269_0 := (HB.out.cell (World.block_lt_of_cell? w _ hx269_0)).trans hx269_0
       replace p269 := eq_true p269
       replace q269 := eq_true q269
       have hcz16_0 := cz0_ BK268
       have hcz16_1 := cz1_ BK268
       have hfz16_0 := blk_frozen BK268.out 0
       have hfz16_1 := blk_frozen BK268.out 1
       go_wp2_with (((with_reducible refine gate_callee (f := 13) rfl ?_); refine goesL_ (some 26) rfl rfl Try.func13 (by kernel_rfl) rfl #[.agg #[.int .i64 a0_0, .int .i64 a0_1], .int .i64 a1, .int .i64 a2, .int .i64 (rd l3 x17_1)] rfl (by (try simp only [List.map_toArray, List.map_cons, List.map_nil]); rfl) ?_; (with_reducible refine (hushref6_Hide.calls k1 a0_0 a0_1 a1 a2 (rd l3 x17_1) t270 t273 _ A9.out).mono ?_); rintro e w17 ⟨v271, rfl, ho0, hb⟩; refine ⟨_, rfl, ?_⟩; have HO272 := Aside0.mk (Kd.N_lower (Kd.N_mono (ok' := fun k_ => (w.heap.size ≤ k_) ∧ some k_ ≠ (u10 : Value).ownBlock ∧ k_ ≠ gb268) ho0 (fun k_ hk_ => ⟨(Nat.le_trans (below_size HB.out) hk_), (Kd.fresh' (Kd.N_lt (by (with_reducible repeat (first | apply Kd.N_alloc | apply Kd.N_drewN | apply Kd.N_drew)); exact HO_10.out)) k_ hk_), (Kd.freshB (g := gb268) (o := .cells #[.int .i64 a0_0, .int .i64 a0_1] 23 (0, 0)) (by (with_reducible repeat (first | refine blk_drewN ?_ _ | refine blk_drew ?_ | refine blk_alloc ?_ _)); exact BK268.out) k_ hk_)⟩)) (below_size HB.out)); replace HO_10 := Aside0.mk (Kd.N_elder' (by (with_reducible repeat (first | apply Kd.N_alloc | apply Kd.N_drewN | apply Kd.N_drew)); exact HO_10.out) (Kd.N_base ho0) hb); replace BK268 := Aside0.mk (blk_below (g := gb268) (o := .cells #[.int .i64 a0_0, .int .i64 a0_1] 23 (0, 0)) (by (with_reducible repeat (first | refine blk_drewN ?_ _ | refine blk_drew ?_ | refine blk_alloc ?_ _)); exact BK268.out) hb); replace HB := Aside0.mk (below_step HB.out hb); (try clear hb); (try clear ho0)))
       go_ret2
       exact ⟨_, rfl, by exact Kd.N_nil _ _ _ _ _, HB.out⟩
     ·
      rw [if_neg c8] at H
      exact absurd H (by simp)
    ·
     rw [if_neg c7] at H
     exact absurd H (by simp)
   ·
    rw [if_neg c6] at H
    have c6b0 : decide (x17_1 < (l3.length : Int)) = false := decide_eq_false c6
    clear c6
    simp only [Option.some.injEq, Prod.mk.injEq] at H
    obtain ⟨rfl, rfl⟩ := H
    go_wp2
    go_ret2
    exact ⟨_, rfl, by (with_reducible repeat (first | apply Kd.N_alloc | apply Kd.N_drewN | apply Kd.N_drew)); exact Kd.N_mono HO_10.out (fun _ hk => hk.1), HB.out⟩

/-! ### hushref6_SameDists: function 16 -/
def hushref6_SameDists.l0 : Nat → List (List (S64)) → List (List (S64)) → Int → Int → Option (Bool)
 | 0, _, _, _, _ => none
 | k + 1, x0, x1, x12, x13 => if x13 < x12 then (if 0 ≤ x13 then (if x13 < (x0.length : Int) then (if x13 < (x1.length : Int) then ((hushref2_Same.f k (rd_L3 x0 x13) (rd_L3 x1 x13)).bind fun t279 => (if t279 = true then (hushref6_SameDists.l0 k x0 x1 x12 (wrap64 (x13 + 1))) else (some false))) else (none)) else (none)) else (none)) else (some true)
def hushref6_SameDists.f (k : Nat) (l0 : List (List (S64))) (l1 : List (List (S64))) : Option (Bool) := if (l0.length : Int) = (l1.length : Int) then (hushref6_SameDists.l0 k l0 l1 (l0.length : Int) 0) else (some false)
theorem hushref6_SameDists.mono_l : ∀ k, (∀ y0 y1 y2 y3, LeO (hushref6_SameDists.l0 k y0 y1 y2 y3) (hushref6_SameDists.l0 (k + 1) y0 y1 y2 y3))
 | 0 => fun _ _ _ _ r h => by simp [hushref6_SameDists.l0] at h
 | k + 1 => by
  have ih0 := hushref6_SameDists.mono_l k
  ·
   intro y0 y1 y2 y3
   unfold hushref6_SameDists.l0
   repeat' first
   | (with_reducible exact ih0 _ _ _ _)
   | (with_reducible exact hushref2_Same.mono _ _ _)
   | (with_reducible exact LeO.refl _)
   | (with_reducible refine LeO.ite ?_ ?_)
   | (with_reducible refine LeO.bind ?_ (fun _ => ?_))
theorem hushref6_SameDists.mono : ∀ a0 a1 k, LeO (hushref6_SameDists.f k a0 a1) (hushref6_SameDists.f (k + 1) a0 a1) := by
 intro a0 a1 k
 have ih0 := hushref6_SameDists.mono_l k
 unfold hushref6_SameDists.f
 repeat' first
   | (with_reducible exact ih0 _ _ _ _)
   | (with_reducible exact LeO.refl _)
   | (with_reducible refine LeO.ite ?_ ?_)
set_option maxHeartbeats 8000000 in
set_option maxRecDepth 100000 in
theorem hushref6_SameDists.calls (k : Nat) (A0 : Option Addr) (c0 : Nat) (l0 : List (List (S64))) (A1 : Option Addr) (c1 : Nat) (l1 : List (List (S64))) (r : Bool) (w : World) (hr0 : Kd.C (Kd.slice 64 k64) w A0 l0.length l0) (hc0 : l0.length ≤ c0) (hr1 : Kd.C (Kd.slice 64 k64) w A1 l1.length l1) (hc1 : l1.length ≤ c1) (h : hushref6_SameDists.f k l0 l1 = some r) :
  Calls Try.prog 16 #[.slice A0 l0.length c0, .slice A1 l1.length c1] w fun e w' => e = .returned (.bool r) ∧ Drawn0 w w' := by
 have HR0 := Aside0.mk hr0
 have HC0 := Aside0.mk hc0
 clear hr0 hc0
 have HR1 := Aside0.mk hr1
 have HC1 := Aside0.mk hc1
 clear hr1 hc1
 have H : (if (l0.length : Int) = (l1.length : Int) then (hushref6_SameDists.l0 k l0 l1 (l0.length : Int) 0) else (some false)) = some r := h
 clear h
 by_cases c3 : (l0.length : Int) = (l1.length : Int)
 ·
  rw [if_pos c3] at H
  have c3b0 : ((l0.length : Int) == (l1.length : Int)) = true := beq_iff_eq.mpr c3
  have c3b1 : ((l0.length : Int) != (l1.length : Int)) = false := bne_eq_false_iff_eq.mpr c3
  have c3b2 : (l0.length == l1.length) = true := by (simp at c3 ⊢; omega)
  clear c3
  have H' := Aside0.mk H
  clear H
  go_enter Try.func16, Try.ntmps16
  go_wp2
  repeat (go_quiet (fail); try go_wp2)
  go_loopg [13] k (fun kq v13 w' => ∃ (x13_1 : Int), v13 = .int .i64 x13_1 ∧ Aside0 (hushref6_SameDists.l0 kq l0 l1 (l0.length : Int) x13_1 = some r) ∧ Aside0 (kq ≤ k) ∧ Drawn0 w w')
  case atStart => exact ⟨(0), rfl, H', ⟨Nat.le_refl _⟩, by repeat (exact Drawn0.refl _)⟩
  case round =>
   clear H'
   try clear c3b0
   try clear c3b1
   try clear c3b2
   obtain ⟨x13_1, rfl, HA, HK1, ⟨m1, rfl⟩⟩ := hrel
   cases gk with
   | zero => exact absurd HA.out (by simp [hushref6_SameDists.l0])
   | succ k1 =>
    have H := HA.out
    clear HA
    simp only [hushref6_SameDists.l0] at H
    by_cases c4 : x13_1 < (l0.length : Int)
    ·
     rw [if_pos c4] at H
     have c4b0 : decide (x13_1 < (l0.length : Int)) = true := decide_eq_true c4
     clear c4
     by_cases c5 : 0 ≤ x13_1
     ·
      rw [if_pos c5] at H
      have c5b0 : decide (0 ≤ x13_1) = true := decide_eq_true c5
      clear c5
      by_cases c6 : x13_1 < (l0.length : Int)
      ·
       rw [if_pos c6] at H
       have c6b0 : decide (x13_1 < (l0.length : Int)) = true := decide_eq_true c6
       clear c6
       by_cases c7 : x13_1 < (l1.length : Int)
       ·
        rw [if_pos c7] at H
        have c7b0 : decide (x13_1 < (l1.length : Int)) = true := decide_eq_true c7
        clear c7
        obtain ⟨t279, A8, H⟩ := bnd_ H
        by_cases c9 : t279 = true
        ·
         subst c9
         rw [if_pos rfl] at H
         have H' := Aside0.mk H
         clear H
         have p277 : 0 ≤ (x13_1 : Int) := of_decide_eq_true (by (with_reducible assumption))
         have q277 : x13_1 < (l0.length : Int) := of_decide_eq_true (by (with_reducible assumption))
         obtain ⟨ad277, A277_0, c277_0, e277, hx277_0, hl277_0, hi277_0⟩ := at_L3 HR0.out x13_1 p277 q277
         cases e277
         have HR277_0 := Aside0.mk hi277_0
         have HC277_0 := Aside0.mk hl277_0
         clear hi277_0 hl277_0
         replace p277 := eq_true p277
         replace q277 := eq_true q277
         have p278 : 0 ≤ (x13_1 : Int) := of_decide_eq_true (by (with_reducible assumption))
         have q278 : x13_1 < (l1.length : Int) := of_decide_eq_true (by (with_reducible assumption))
         obtain ⟨ad278, A278_0, c278_0, e278, hx278_0, hl278_0, hi278_0⟩ := at_L3 HR1.out x13_1 p278 q278
         cases e278
         have HR278_0 := Aside0.mk hi278_0
         have HC278_0 := Aside0.mk hl278_0
         clear hi278_0 hl278_0
         replace p278 := eq_true p278
         replace q278 := eq_true q278
         go_wp2_with (first | (go_at_call 10; (with_reducible refine (hushref2_Same.calls k1 _ _ (rd_L3 l0 x13_1) _ _ (rd_L3 l1 x13_1) true _ ?side1 ?side2 ?side3 ?side4 A8.out).mono ?_); (case side1 => repeat (first | exact HR277_0.out | (with_reducible refine Kd.C_alloc ?_ _) | (with_reducible refine Kd.C_drewN ?_ _) | (with_reducible refine Kd.C_drew ?_))); (case side2 => exact HC277_0.out); (case side3 => repeat (first | exact HR278_0.out | (with_reducible refine Kd.C_alloc ?_ _) | (with_reducible refine Kd.C_drewN ?_ _) | (with_reducible refine Kd.C_drew ?_))); (case side4 => exact HC278_0.out); rintro e w' ⟨rfl, ⟨nd, rfl⟩⟩; (try first | exact ⟨rfl, _, World.drewN_drewN _ _ _⟩ | exact ⟨rfl, _, Eq.trans (World.drewN_drewN _ _ _) (congrArg (World.drewN _) (Nat.add_assoc _ _ _))⟩)))
         repeat (go_quiet ((go_at_call 10; (with_reducible refine (hushref2_Same.calls k1 _ _ (rd_L3 l0 x13_1) _ _ (rd_L3 l1 x13_1) true _ ?side1 ?side2 ?side3 ?side4 A8.out).mono ?_); (case side1 => repeat (exact HR277_0.out)); (case side2 => exact HC277_0.out); (case side3 => repeat (exact HR278_0.out)); (case side4 => exact HC278_0.out); rintro e w' ⟨rfl, ⟨nd, rfl⟩⟩; (try exact ⟨rfl, _, Eq.trans (World.drewN_drewN _ _ _) (congrArg (World.drewN _) (Nat.add_assoc _ _ _))⟩))); try go_wp2_with (first | (go_at_call 10; (with_reducible refine (hushref2_Same.calls k1 _ _ (rd_L3 l0 x13_1) _ _ (rd_L3 l1 x13_1) true _ ?side1 ?side2 ?side3 ?side4 A8.out).mono ?_); (case side1 => repeat (first | exact HR277_0.out | (with_reducible refine Kd.C_alloc ?_ _) | (with_reducible refine Kd.C_drewN ?_ _) | (with_reducible refine Kd.C_drew ?_))); (case side2 => exact HC277_0.out); (case side3 => repeat (first | exact HR278_0.out | (with_reducible refine Kd.C_alloc ?_ _) | (with_reducible refine Kd.C_drewN ?_ _) | (with_reducible refine Kd.C_drew ?_))); (case side4 => exact HC278_0.out); rintro e w' ⟨rfl, ⟨nd, rfl⟩⟩; (try first | exact ⟨rfl, _, World.drewN_drewN _ _ _⟩ | exact ⟨rfl, _, Eq.trans (World.drewN_drewN _ _ _) (congrArg (World.drewN _) (Nat.add_assoc _ _ _))⟩))))
         go_roundg k1
         case measure => have := HK1.out; omega
         case rel => exact ⟨(wrap64 (x13_1 + 1)), rfl, H', ⟨by have := HK1.out; omega⟩, by repeat (first | exact Drawn0.refl _ | apply Drawn0.step)⟩
        ·
         replace c9 := Bool.eq_false_iff.mpr c9
         subst c9
         rw [if_neg (show ¬ (false = true) by decide)] at H
         obtain rfl := Option.some.inj H
         have p277 : 0 ≤ (x13_1 : Int) := of_decide_eq_true (by (with_reducible assumption))
         have q277 : x13_1 < (l0.length : Int) := of_decide_eq_true (by (with_reducible assumption))
         obtain ⟨ad277, A277_0, c277_0, e277, hx277_0, hl277_0, hi277_0⟩ := at_L3 HR0.out x13_1 p277 q277
         cases e277
         have HR277_0 := Aside0.mk hi277_0
         have HC277_0 := Aside0.mk hl277_0
         clear hi277_0 hl277_0
         replace p277 := eq_true p277
         replace q277 := eq_true q277
         have p278 : 0 ≤ (x13_1 : Int) := of_decide_eq_true (by (with_reducible assumption))
         have q278 : x13_1 < (l1.length : Int) := of_decide_eq_true (by (with_reducible assumption))
         obtain ⟨ad278, A278_0, c278_0, e278, hx278_0, hl278_0, hi278_0⟩ := at_L3 HR1.out x13_1 p278 q278
         cases e278
         have HR278_0 := Aside0.mk hi278_0
         have HC278_0 := Aside0.mk hl278_0
         clear hi278_0 hl278_0
         replace p278 := eq_true p278
         replace q278 := eq_true q278
         go_wp2_with (first | (go_at_call 10; (with_reducible refine (hushref2_Same.calls k1 _ _ (rd_L3 l0 x13_1) _ _ (rd_L3 l1 x13_1) false _ ?side1 ?side2 ?side3 ?side4 A8.out).mono ?_); (case side1 => repeat (first | exact HR277_0.out | (with_reducible refine Kd.C_alloc ?_ _) | (with_reducible refine Kd.C_drewN ?_ _) | (with_reducible refine Kd.C_drew ?_))); (case side2 => exact HC277_0.out); (case side3 => repeat (first | exact HR278_0.out | (with_reducible refine Kd.C_alloc ?_ _) | (with_reducible refine Kd.C_drewN ?_ _) | (with_reducible refine Kd.C_drew ?_))); (case side4 => exact HC278_0.out); rintro e w' ⟨rfl, ⟨nd, rfl⟩⟩; (try first | exact ⟨rfl, _, World.drewN_drewN _ _ _⟩ | exact ⟨rfl, _, Eq.trans (World.drewN_drewN _ _ _) (congrArg (World.drewN _) (Nat.add_assoc _ _ _))⟩)))
         repeat (go_quiet ((go_at_call 10; (with_reducible refine (hushref2_Same.calls k1 _ _ (rd_L3 l0 x13_1) _ _ (rd_L3 l1 x13_1) false _ ?side1 ?side2 ?side3 ?side4 A8.out).mono ?_); (case side1 => repeat (exact HR277_0.out)); (case side2 => exact HC277_0.out); (case side3 => repeat (exact HR278_0.out)); (case side4 => exact HC278_0.out); rintro e w' ⟨rfl, ⟨nd, rfl⟩⟩; (try exact ⟨rfl, _, Eq.trans (World.drewN_drewN _ _ _) (congrArg (World.drewN _) (Nat.add_assoc _ _ _))⟩))); try go_wp2_with (first | (go_at_call 10; (with_reducible refine (hushref2_Same.calls k1 _ _ (rd_L3 l0 x13_1) _ _ (rd_L3 l1 x13_1) false _ ?side1 ?side2 ?side3 ?side4 A8.out).mono ?_); (case side1 => repeat (first | exact HR277_0.out | (with_reducible refine Kd.C_alloc ?_ _) | (with_reducible refine Kd.C_drewN ?_ _) | (with_reducible refine Kd.C_drew ?_))); (case side2 => exact HC277_0.out); (case side3 => repeat (first | exact HR278_0.out | (with_reducible refine Kd.C_alloc ?_ _) | (with_reducible refine Kd.C_drewN ?_ _) | (with_reducible refine Kd.C_drew ?_))); (case side4 => exact HC278_0.out); rintro e w' ⟨rfl, ⟨nd, rfl⟩⟩; (try first | exact ⟨rfl, _, World.drewN_drewN _ _ _⟩ | exact ⟨rfl, _, Eq.trans (World.drewN_drewN _ _ _) (congrArg (World.drewN _) (Nat.add_assoc _ _ _))⟩))))
         go_ret
         exact ⟨rfl, by repeat (first | exact Drawn0.refl _ | apply Drawn0.step)⟩
       ·
        rw [if_neg c7] at H
        exact absurd H (by simp)
      ·
       rw [if_neg c6] at H
       exact absurd H (by simp)
     ·
      rw [if_neg c5] at H
      exact absurd H (by simp)
    ·
     rw [if_neg c4] at H
     have c4b0 : decide (x13_1 < (l0.length : Int)) = false := decide_eq_false c4
     clear c4
     obtain rfl := Option.some.inj H
     go_wp2
     repeat (go_quiet (fail); try go_wp2)
     go_ret
     exact ⟨rfl, by repeat (first | exact Drawn0.refl _ | apply Drawn0.step)⟩
 ·
  rw [if_neg c3] at H
  have c3b0 : ((l0.length : Int) == (l1.length : Int)) = false := beq_eq_false_iff_ne.mpr c3
  have c3b1 : ((l0.length : Int) != (l1.length : Int)) = true := bne_iff_ne.mpr c3
  have c3b2 : (l0.length == l1.length) = false := by (simp at c3 ⊢; omega)
  obtain rfl := Option.some.inj H
  go_enter Try.func16, Try.ntmps16
  go_wp2
  repeat (go_quiet (fail); try go_wp2)
  go_ret
  exact ⟨rfl, by repeat (exact Drawn0.refl _)⟩

end Go.Proofs.Ytjbgnlhgjgnclaa.PB

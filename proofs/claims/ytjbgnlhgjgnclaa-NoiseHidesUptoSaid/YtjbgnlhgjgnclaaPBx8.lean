
/- Functions of the program in Lean, by wip/xprint.py. Conditions: in each theorem. -/
import Derived.Test.YtjbgnlhgjgnclaaPBxs
import Derived.Test.YtjbgnlhgjgnclaaPBx0
import Derived.Test.YtjbgnlhgjgnclaaPBx2
import Derived.Test.YtjbgnlhgjgnclaaPBx6
import Derived.Test.YtjbgnlhgjgnclaaPBx7
namespace Go.Proofs.Ytjbgnlhgjgnclaa.PB
open Go.RowKit Go.Proofs.YtjbgnlhgjgnclaaW.PrintWords Go.Proofs.YtjbgnlhgjgnclaaW.PrintLast Go.Proofs.YtjbgnlhgjgnclaaW.PrintMore
attribute [local go_sem] max2_int min2_int max_two min_two max_three min_three max_four min_four   -- for this text's walks alone
set_option linter.unusedVariables false
set_option linter.unusedSimpArgs false

/-! ### noise_Hide: function 9 -/
mutual
def noise_Hide.j0 : Nat → Int → Int → Int → Bool → Int → Int → Option ((List (S64)) × Int)
 | 0, _, _, _, _, _, _ => none
 | k + 1, x1, x2, x3, x37, x152000, x152001 => if x37 = true then (some (([] : List (S64)), 3)) else (if x1 = x2 then ((dist_Sure.f k (([x1] : List Int))).bind fun bt156 => (some (bt156.1, bt156.2))) else ((noise_power.f k x152000 (wrap64 (x2 - x1))).bind fun t160 => (if t160 > 1073741824 then (noise_Hide.j1 k x1 x2 x3 true x152000 x152001) else (noise_Hide.j1 k x1 x2 x3 (decide ((wrap64 (t160 * (wrap64 (x152000 + x152001)))) > 1073741824)) x152000 x152001))))
def noise_Hide.j1 : Nat → Int → Int → Int → Bool → Int → Int → Option ((List (S64)) × Int)
 | 0, _, _, _, _, _, _ => none
 | k + 1, x1, x2, x3, x63, x152000, x152001 => if x63 = true then (some (([] : List (S64)), 4)) else ((noise_ways.f k x152000 x152001 (wrap64 (x2 - x1)) (wrap64 ((mn (mx x3 x1) x2) - x1))).bind fun t161 => (noise_Hide.l0 k x1 ([] : List (S64)) t161 (t161.length : Int) 0))
def noise_Hide.l0 : Nat → Int → List (S64) → List Int → Int → Int → Option ((List (S64)) × Int)
 | 0, _, _, _, _, _ => none
 | k + 1, x1, x13, x76, x77, x78 => if x78 < x77 then (if 0 ≤ x78 then (if x78 < (x76.length : Int) then (if x13.length < 4398046511104 then (noise_Hide.l0 k x1 (x13 ++ [(⟨(([wrap64 (x1 + x78)] : List Int)), rd x76 x78⟩ : S64)]) x76 x77 (wrap64 (x78 + 1))) else (none)) else (none)) else (none)) else ((dist_Make.f k x13).bind fun bt171 => (some (bt171.1, bt171.2)))
end
def noise_Hide.f (k : Nat) (a0_0 : Int) (a0_1 : Int) (a1 : Int) (a2 : Int) (a3 : Int) : Option ((List (S64)) × Int) := (noise_loss.f k a0_0 a0_1).bind fun t152 => (if t152 = 0 then (if a1 < (-1073741824) then (noise_Hide.j0 k a1 a2 a3 true a0_0 a0_1) else (if a2 > 1073741824 then (noise_Hide.j0 k a1 a2 a3 true a0_0 a0_1) else (if a1 > a2 then (noise_Hide.j0 k a1 a2 a3 true a0_0 a0_1) else (noise_Hide.j0 k a1 a2 a3 (decide ((wrap64 (a2 - a1)) > 64)) a0_0 a0_1)))) else (some (([] : List (S64)), t152)))
theorem noise_Hide.mono_l : ∀ k, (∀ y0 y1 y2 y3 y4 y5, LeO (noise_Hide.j0 k y0 y1 y2 y3 y4 y5) (noise_Hide.j0 (k + 1) y0 y1 y2 y3 y4 y5)) ∧ (∀ y0 y1 y2 y3 y4 y5, LeO (noise_Hide.j1 k y0 y1 y2 y3 y4 y5) (noise_Hide.j1 (k + 1) y0 y1 y2 y3 y4 y5)) ∧ (∀ y0 y1 y2 y3 y4, LeO (noise_Hide.l0 k y0 y1 y2 y3 y4) (noise_Hide.l0 (k + 1) y0 y1 y2 y3 y4))
 | 0 => ⟨fun _ _ _ _ _ _ r h => by simp [noise_Hide.j0] at h, fun _ _ _ _ _ _ r h => by simp [noise_Hide.j1] at h, fun _ _ _ _ _ r h => by simp [noise_Hide.l0] at h⟩
 | k + 1 => by
  obtain ⟨ih0, ih1, ih2⟩ := noise_Hide.mono_l k
  refine ⟨?_, ?_, ?_⟩
  ·
   intro y0 y1 y2 y3 y4 y5
   unfold noise_Hide.j0
   repeat' first
   | (with_reducible exact ih1 _ _ _ _ _ _)
   | (with_reducible exact dist_Sure.mono _ _)
   | (with_reducible exact noise_power.mono _ _ _)
   | (with_reducible exact LeO.refl _)
   | (with_reducible refine LeO.ite ?_ ?_)
   | (with_reducible refine LeO.bind ?_ (fun _ => ?_))
  ·
   intro y0 y1 y2 y3 y4 y5
   unfold noise_Hide.j1
   repeat' first
   | (with_reducible exact ih2 _ _ _ _ _)
   | (with_reducible exact noise_ways.mono _ _ _ _ _)
   | (with_reducible exact LeO.refl _)
   | (with_reducible refine LeO.ite ?_ ?_)
   | (with_reducible refine LeO.bind ?_ (fun _ => ?_))
  ·
   intro y0 y1 y2 y3 y4
   unfold noise_Hide.l0
   repeat' first
   | (with_reducible exact ih2 _ _ _ _ _)
   | (with_reducible exact dist_Make.mono _ _)
   | (with_reducible exact LeO.refl _)
   | (with_reducible refine LeO.ite ?_ ?_)
   | (with_reducible refine LeO.bind ?_ (fun _ => ?_))
theorem noise_Hide.mono : ∀ a0 a1 a2 a3 a4 k, LeO (noise_Hide.f k a0 a1 a2 a3 a4) (noise_Hide.f (k + 1) a0 a1 a2 a3 a4) := by
 intro a0 a1 a2 a3 a4 k
 obtain ⟨ih0, ih1, ih2⟩ := noise_Hide.mono_l k
 unfold noise_Hide.f
 repeat' first
   | (with_reducible exact ih0 _ _ _ _ _ _)
   | (with_reducible exact noise_loss.mono _ _ _)
   | (with_reducible exact LeO.refl _)
   | (with_reducible refine LeO.ite ?_ ?_)
   | (with_reducible refine LeO.bind ?_ (fun _ => ?_))
set_option maxHeartbeats 8000000 in
set_option maxRecDepth 100000 in
theorem noise_Hide.calls (k : Nat) (a0_0 : Int) (a0_1 : Int) (a1 : Int) (a2 : Int) (a3 : Int) (r1 : List (S64)) (r2 : Int) (w : World) (h : noise_Hide.f k a0_0 a0_1 a1 a2 a3 = some (r1, r2)) :
  Calls Try.prog 9 #[.agg #[.int .i64 a0_0, .int .i64 a0_1], .int .i64 a1, .int .i64 a2, .int .i64 a3] w fun e w' => ∃ v0_ : Value, e = .returned (.tuple #[v0_, .int .i64 r2]) ∧ Kd.N k64 64 w' w.heap.size (fun k_ => (w.heap.size ≤ k_)) v0_ r1 ∧ Below w.heap.size w w' := by
 have hu23 := Try.underlying23
 have hu64 := Try.underlying64
 have HB := Aside0.mk (Below.refl w.heap.size w)
 have H : ((noise_loss.f k a0_0 a0_1).bind fun t152 => (if t152 = 0 then (if a1 < (-1073741824) then (noise_Hide.j0 k a1 a2 a3 true a0_0 a0_1) else (if a2 > 1073741824 then (noise_Hide.j0 k a1 a2 a3 true a0_0 a0_1) else (if a1 > a2 then (noise_Hide.j0 k a1 a2 a3 true a0_0 a0_1) else (noise_Hide.j0 k a1 a2 a3 (decide ((wrap64 (a2 - a1)) > 64)) a0_0 a0_1)))) else (some (([] : List (S64)), t152)))) = some (r1, r2) := h
 clear h
 obtain ⟨t152, A5, H⟩ := bnd_ H
 by_cases c6 : t152 = 0
 ·
  rw [if_pos c6] at H
  have c6b0 : (t152 == 0) = true := beq_iff_eq.mpr c6
  have c6b1 : (t152 != 0) = false := bne_eq_false_iff_eq.mpr c6
  clear c6
  have HC7 := Aside0.mk H
  clear H
  go_enter Try.func9, Try.ntmps9
  go_upto_region 4 with (first | ((with_reducible refine gate_dst (N := 4) rfl ?_); refine box_event ?hg (N := 4) ?hd (cs := #[.int .i64 a0_0, .int .i64 a0_1]) (t := 23) ?hr ?_; (case hd | hg => rfl); (case hr => go_simp; done); intro gb151 hg w8 hbox hb; have BK151 := Aside0.mk (hbox); have GW151 := gw_ HB.out hg; have GE151 := gw_ HB.out hg; replace HB := Aside0.mk (below_step HB.out hb); clear hb hbox hg; have hcz9_0 := cz0_ BK151; have hcz9_1 := cz1_ BK151; have hfz9_0 := blk_frozen BK151.out 0; have hfz9_1 := blk_frozen BK151.out 1) | ((with_reducible refine gate_callee (f := 26) rfl ?_); refine goesL_ (some 17) rfl rfl Try.func26 (by kernel_rfl) rfl #[.agg #[.int .i64 a0_0, .int .i64 a0_1]] rfl (by (try simp only [List.map_toArray, List.map_cons, List.map_nil]); rfl) ?_; (with_reducible refine (noise_loss.calls k a0_0 a0_1 t152 _ A5.out).mono ?_); rintro e w10 ⟨rfl, hb⟩; refine ⟨_, rfl, ?_⟩; replace BK151 := Aside0.mk (blk_below (g := gb151) (o := .cells #[.int .i64 a0_0, .int .i64 a0_1] 23 (0, 0)) (by (with_reducible repeat (first | refine blk_drewN ?_ _ | refine blk_drew ?_ | refine blk_alloc ?_ _)); exact BK151.out) hb); replace HB := Aside0.mk (below_step HB.out hb); (try clear hb)))
  go_cut [37] (fun v37 wc => ∃ (kq : Nat) (x37_6 : Bool), v37 = .bool x37_6 ∧ Aside0 (noise_Hide.j0 kq a1 a2 a3 x37_6 a0_0 a0_1 = some (r1, r2)) ∧ Aside0 (kq ≤ k) ∧ Aside0 (wc.heap[gb151]? = some (.cells #[.int .i64 a0_0, .int .i64 a0_1] 23 (0, 0))) ∧ Aside0 (Below w.heap.size w wc))
  case first =>
   have H := HC7.out
   clear HC7
   by_cases c11 : a1 < (-1073741824)
   ·
    rw [if_pos c11] at H
    have c11b0 : decide (a1 < (-1073741824)) = true := decide_eq_true c11
    clear c11
    have H' := Aside0.mk H
    clear H
    go_wp2
    go_meet
    case rel => exact ⟨_, (true), rfl, H', ⟨by omega⟩, ⟨by (with_reducible repeat (first | refine blk_drewN ?_ _ | refine blk_drew ?_ | refine blk_alloc ?_ _)); exact BK151.out⟩, ⟨HB.out⟩⟩
   ·
    rw [if_neg c11] at H
    have c11b0 : decide (a1 < (-1073741824)) = false := decide_eq_false c11
    clear c11
    by_cases c12 : a2 > 1073741824
    ·
     rw [if_pos c12] at H
     have c12b0 : decide (1073741824 < a2) = true := decide_eq_true c12
     clear c12
     have H' := Aside0.mk H
     clear H
     go_wp2
     go_meet
     case rel => exact ⟨_, (true), rfl, H', ⟨by omega⟩, ⟨by (with_reducible repeat (first | refine blk_drewN ?_ _ | refine blk_drew ?_ | refine blk_alloc ?_ _)); exact BK151.out⟩, ⟨HB.out⟩⟩
    ·
     rw [if_neg c12] at H
     have c12b0 : decide (1073741824 < a2) = false := decide_eq_false c12
     clear c12
     by_cases c13 : a1 > a2
     ·
      rw [if_pos c13] at H
      have c13b0 : decide (a2 < a1) = true := decide_eq_true c13
      clear c13
      have H' := Aside0.mk H
      clear H
      go_wp2
      go_meet
      case rel => exact ⟨_, (true), rfl, H', ⟨by omega⟩, ⟨by (with_reducible repeat (first | refine blk_drewN ?_ _ | refine blk_drew ?_ | refine blk_alloc ?_ _)); exact BK151.out⟩, ⟨HB.out⟩⟩
     ·
      rw [if_neg c13] at H
      have c13b0 : decide (a2 < a1) = false := decide_eq_false c13
      clear c13
      have H' := Aside0.mk H
      clear H
      go_wp2
      go_meet
      case rel => exact ⟨_, (decide ((wrap64 (a2 - a1)) > 64)), rfl, H', ⟨by omega⟩, ⟨by (with_reducible repeat (first | refine blk_drewN ?_ _ | refine blk_drew ?_ | refine blk_alloc ?_ _)); exact BK151.out⟩, ⟨HB.out⟩⟩
  case rest =>
   clear HC7
   try clear c6b0
   try clear c6b1
   try clear hcz9_0
   try clear hcz9_1
   try clear hfz9_0
   try clear hfz9_1
   obtain ⟨kq, x37_6, rfl, HA, HJ6, BK151, HB⟩ := hcut
   cases kq with
   | zero => exact absurd HA.out (by simp [noise_Hide.j0])
   | succ kj6 =>
    have H := HA.out
    clear HA
    simp only [noise_Hide.j0] at H
    by_cases c14 : x37_6 = true
    ·
     subst c14
     rw [if_pos rfl] at H
     simp only [Option.some.injEq, Prod.mk.injEq] at H
     obtain ⟨rfl, rfl⟩ := H
     go_wp2
     go_ret2
     exact ⟨_, rfl, by exact Kd.N_nil _ _ _ _ _, HB.out⟩
    ·
     replace c14 := Bool.eq_false_iff.mpr c14
     subst c14
     rw [if_neg (show ¬ (false = true) by decide)] at H
     by_cases c15 : a1 = a2
     ·
      rw [if_pos c15] at H
      have c15b0 : (a1 == a2) = true := beq_iff_eq.mpr c15
      have c15b1 : (a1 != a2) = false := bne_eq_false_iff_eq.mpr c15
      clear c15
      obtain ⟨y153, hy153⟩ : ∃ y_ : List Int, y_ = (([a1] : List Int)) := ⟨_, rfl⟩
      replace H : ((dist_Sure.f kj6 y153).bind fun bt156 => (some (bt156.1, bt156.2))) = some (r1, r2) := by (rw [hy153]; with_reducible exact H)
      have Ny153 := Aside0.mk hy153
      clear hy153
      obtain ⟨⟨t156, t159⟩, A16, H⟩ := bnd_ H
      dsimp only at H
      simp only [Option.some.injEq, Prod.mk.injEq] at H
      obtain ⟨rfl, rfl⟩ := H
      go_wp2_with (first | ((with_reducible refine gate_dst (N := 42) rfl ?_); refine Kd.R_lit (Kd.int .i64) _ 3 ?hg (N := 42) ?hd (xs := ([a1] : List Int)) (inner := [.int .i64 a1]) (ok := fun _ => True) (okp := fun _ => True) ?hr ?hp (fun _ hk => hk) trivial (Below.refl _ _) (Nat.le_refl _) (by simp) ?_; (case hd | hg => rfl); (case hr => go_simp; done); (case hp => exact (Reps.one (show Kd.M (Kd.int .i64) _ _ _ a1 [.int .i64 a1] from rfl) (Reps.none _ _))); intro v154 w17 ho18 hb hg_ hnew_; clear hg_ hnew_; (rw [← Ny153.out] at ho18); have HO155 := Aside0.mk (Kd.R_lower (Kd.R_newM (M := fun k_ => (w.heap.size ≤ k_)) ho18 (below_size HB.out) (fun k_ h_ => h_)) (below_size HB.out)); replace BK151 := Aside0.mk (blk_below (g := gb151) (o := .cells #[.int .i64 a0_0, .int .i64 a0_1] 23 (0, 0)) (by (with_reducible repeat (first | refine blk_drewN ?_ _ | refine blk_drew ?_ | refine blk_alloc ?_ _)); exact BK151.out) hb); replace HB := Aside0.mk (below_step HB.out hb); clear hb ho18; obtain ⟨Ao19, co19, eo19⟩ := Kd.R_slice HO155.out; subst eo19) | ((with_reducible refine gate_callee (f := 27) rfl ?_); refine goesL_ (some 43) rfl rfl Try.func27 (by kernel_rfl) rfl #[.slice Ao19 y153.length co19] rfl (by (try simp only [List.map_toArray, List.map_cons, List.map_nil]); rfl) ?_; (with_reducible refine (dist_Sure.calls kj6 (fun k_ => some k_ = (.slice Ao19 y153.length co19 : Value).ownBlock) _ _ y153 t156 t159 _ ?side1 A16.out).mono ?_); (case side1 => exact Kd.R_V (Kd.R_tight rfl (Kd.R_types (HO155.out) BK151.out (by decide)))); rintro e w20 ⟨v157, rfl, ho0, hb⟩; refine ⟨_, rfl, ?_⟩; have HO158 := Aside0.mk (Kd.N_lower (Kd.N_mono (ok' := fun k_ => (w.heap.size ≤ k_) ∧ k_ ≠ gb151) ho0 (fun k_ hk_ => ⟨Or.elim hk_ (fun hs_ => ((Kd.R_types (HO155.out) BK151.out (by decide)).1 k_ hs_.symm).1.1) (fun hn_ => (Nat.le_trans (below_size HB.out) hn_)), Or.elim hk_ (fun hs_ => ((Kd.R_types (HO155.out) BK151.out (by decide)).1 k_ hs_.symm).2) (fun hn_ => (Kd.freshB (g := gb151) (o := .cells #[.int .i64 a0_0, .int .i64 a0_1] 23 (0, 0)) (by (with_reducible repeat (first | refine blk_drewN ?_ _ | refine blk_drew ?_ | refine blk_alloc ?_ _)); exact BK151.out) k_ hn_))⟩)) (below_size HB.out)); replace HO155 := Aside0.mk (Kd.R_below (by (with_reducible repeat (first | apply Kd.R_alloc | apply Kd.R_drewN | apply Kd.R_drew)); exact HO155.out) hb); replace BK151 := Aside0.mk (blk_below (g := gb151) (o := .cells #[.int .i64 a0_0, .int .i64 a0_1] 23 (0, 0)) (by (with_reducible repeat (first | refine blk_drewN ?_ _ | refine blk_drew ?_ | refine blk_alloc ?_ _)); exact BK151.out) hb); replace HB := Aside0.mk (below_step HB.out hb); (try clear hb); (try clear ho0)))
      go_ret2
      exact ⟨_, rfl, by (with_reducible repeat (first | apply Kd.N_alloc | apply Kd.N_drewN | apply Kd.N_drew)); exact Kd.N_mono HO158.out (fun _ hk => hk.1), HB.out⟩
     ·
      rw [if_neg c15] at H
      have c15b0 : (a1 == a2) = false := beq_eq_false_iff_ne.mpr c15
      have c15b1 : (a1 != a2) = true := bne_iff_ne.mpr c15
      obtain ⟨t160, A21, H⟩ := bnd_ H
      have HC22 := Aside0.mk H
      clear H
      have hcz23_0 := cz0_ BK151
      have hcz23_1 := cz1_ BK151
      have hfz23_0 := blk_frozen BK151.out 0
      have hfz23_1 := blk_frozen BK151.out 1
      go_upto_region 9 with (((with_reducible refine gate_callee (f := 28) rfl ?_); refine goesL_ (some 51) rfl rfl Try.func28 (by kernel_rfl) rfl #[.int .i64 a0_0, .int .i64 (wrap64 (a2 - a1))] rfl (by (try simp only [List.map_toArray, List.map_cons, List.map_nil]); rfl) ?_; (with_reducible refine (noise_power.calls kj6 a0_0 (wrap64 (a2 - a1)) t160 _ A21.out).mono ?_); rintro e w' ⟨rfl, ⟨nd, rfl⟩⟩; refine ⟨_, rfl, ?_⟩))
      go_cut [63] (fun v63 wc => ∃ (kq : Nat) (x63_21 : Bool), v63 = .bool x63_21 ∧ Aside0 (noise_Hide.j1 kq a1 a2 a3 x63_21 a0_0 a0_1 = some (r1, r2)) ∧ Aside0 (kq ≤ kj6) ∧ Aside0 (wc.heap[gb151]? = some (.cells #[.int .i64 a0_0, .int .i64 a0_1] 23 (0, 0))) ∧ Aside0 (Below w.heap.size w wc))
      case first =>
       have H := HC22.out
       clear HC22
       by_cases c24 : t160 > 1073741824
       ·
        rw [if_pos c24] at H
        have c24b0 : decide (1073741824 < t160) = true := decide_eq_true c24
        clear c24
        have H' := Aside0.mk H
        clear H
        go_wp2
        go_meet
        case rel => exact ⟨_, (true), rfl, H', ⟨by have := HJ6.out; omega⟩, ⟨by (with_reducible repeat (refine blk_drewN ?_ _)); exact BK151.out⟩, ⟨by repeat (with_reducible first | exact HB.out | apply pw_below_drewN)⟩⟩
       ·
        rw [if_neg c24] at H
        have c24b0 : decide (1073741824 < t160) = false := decide_eq_false c24
        clear c24
        have H' := Aside0.mk H
        clear H
        have hcz25_0 := cz0_ BK151
        have hcz25_1 := cz1_ BK151
        have hfz25_0 := blk_frozen BK151.out 0
        have hfz25_1 := blk_frozen BK151.out 1
        go_wp2
        go_meet
        case rel => exact ⟨_, (decide ((wrap64 (t160 * (wrap64 (a0_0 + a0_1)))) > 1073741824)), rfl, H', ⟨by have := HJ6.out; omega⟩, ⟨by (with_reducible repeat (refine blk_drewN ?_ _)); exact BK151.out⟩, ⟨by repeat (with_reducible first | exact HB.out | apply pw_below_drewN)⟩⟩
      case rest =>
       clear HC22
       try clear c15
       try clear c15b0
       try clear c15b1
       try clear hcz23_0
       try clear hcz23_1
       try clear hfz23_0
       try clear hfz23_1
       obtain ⟨kq, x63_21, rfl, HA, HJ21, BK151, HB⟩ := hcut
       cases kq with
       | zero => exact absurd HA.out (by simp [noise_Hide.j1])
       | succ kj21 =>
        have H := HA.out
        clear HA
        simp only [noise_Hide.j1] at H
        by_cases c26 : x63_21 = true
        ·
         subst c26
         rw [if_pos rfl] at H
         simp only [Option.some.injEq, Prod.mk.injEq] at H
         obtain ⟨rfl, rfl⟩ := H
         go_wp2
         go_ret2
         exact ⟨_, rfl, by exact Kd.N_nil _ _ _ _ _, HB.out⟩
        ·
         replace c26 := Bool.eq_false_iff.mpr c26
         subst c26
         rw [if_neg (show ¬ (false = true) by decide)] at H
         obtain ⟨ji27, hji27⟩ : ∃ j_ : Int, (mx a3 a1) = j_ := ⟨_, rfl⟩
         replace H : ((noise_ways.f kj21 a0_0 a0_1 (wrap64 (a2 - a1)) (wrap64 ((mn (ji27) a2) - a1))).bind fun t161 => (noise_Hide.l0 kj21 a1 ([] : List (S64)) t161 (t161.length : Int) 0)) = some (r1, r2) := by (rw [hji27] at H; exact H)
         have hji27_ : (if a3 < a1 then a1 else a3) = ji27 := hji27
         obtain ⟨ji28, hji28⟩ : ∃ j_ : Int, (mn (ji27) a2) = j_ := ⟨_, rfl⟩
         replace H : ((noise_ways.f kj21 a0_0 a0_1 (wrap64 (a2 - a1)) (wrap64 ((ji28) - a1))).bind fun t161 => (noise_Hide.l0 kj21 a1 ([] : List (S64)) t161 (t161.length : Int) 0)) = some (r1, r2) := by (rw [hji28] at H; exact H)
         have hji28_ : (if a2 < (ji27) then a2 else (ji27)) = ji28 := hji28
         obtain ⟨t161, A29, H⟩ := bnd_ H
         have H' := Aside0.mk H
         clear H
         have hcz30_0 := cz0_ BK151
         have hcz30_1 := cz1_ BK151
         have hfz30_0 := blk_frozen BK151.out 0
         have hfz30_1 := blk_frozen BK151.out 1
         go_wp2_with (((with_reducible refine gate_callee (f := 29) rfl ?_); refine goesL_ (some 76) rfl rfl Try.func29 (by kernel_rfl) rfl #[.agg #[.int .i64 a0_0, .int .i64 a0_1], .int .i64 (wrap64 (a2 - a1)), .int .i64 (wrap64 ((ji28) - a1))] rfl (by (try simp only [List.map_toArray, List.map_cons, List.map_nil]); rfl) ?_; (with_reducible refine (noise_ways.calls kj21 a0_0 a0_1 (wrap64 (a2 - a1)) (wrap64 ((ji28) - a1)) t161 _ A29.out).mono ?_); rintro e w31 ⟨v162, rfl, ho0, hb⟩; refine ⟨_, rfl, ?_⟩; have HO163 := Aside0.mk (Kd.R_lower (Kd.R_newM (M := fun k_ => (w.heap.size ≤ k_)) ho0 (below_size HB.out) (fun k_ h_ => h_)) (below_size HB.out)); replace BK151 := Aside0.mk (blk_below (g := gb151) (o := .cells #[.int .i64 a0_0, .int .i64 a0_1] 23 (0, 0)) (by (with_reducible repeat (first | refine blk_drewN ?_ _ | refine blk_drew ?_ | refine blk_alloc ?_ _)); exact BK151.out) hb); replace HB := Aside0.mk (below_step HB.out hb); (try clear hb); (try clear ho0); obtain ⟨Ao32, co32, eo32⟩ := Kd.R_slice HO163.out; subst eo32))
         go_loopg [13, 78] kj21 (fun kq v13 v78 w' => ∃ (x13_3 : List (S64)) (x78_3 : Int), v78 = .int .i64 x78_3 ∧ Aside0 (noise_Hide.l0 kq a1 x13_3 t161 (t161.length : Int) x78_3 = some (r1, r2)) ∧ Aside0 (kq ≤ kj21) ∧ Aside0 (Kd.N k64 64 w' w.heap.size (fun k_ => (w.heap.size ≤ k_) ∧ some k_ ≠ ((.slice Ao32 t161.length co32) : Value).ownBlock ∧ k_ ≠ gb151) v13 x13_3) ∧ Aside0 (Kd.R (Kd.int .i64) 3 w' w.heap.size (fun k_ => (w.heap.size ≤ k_)) (.slice Ao32 t161.length co32) t161) ∧ Aside0 (w'.heap[gb151]? = some (.cells #[.int .i64 a0_0, .int .i64 a0_1] 23 (0, 0))) ∧ Aside0 (Below w.heap.size w w'))
         case atStart => exact ⟨(([] : List (S64))), (0), rfl, H', ⟨Nat.le_refl _⟩, ⟨by exact Kd.N_nil _ _ _ _ _⟩, ⟨by (with_reducible repeat (first | apply Kd.R_alloc | apply Kd.R_drewN | apply Kd.R_drew)); exact Kd.R_mono HO163.out (fun _ hk => hk.1)⟩, ⟨by (with_reducible repeat (first | refine blk_drewN ?_ _ | refine blk_drew ?_ | refine blk_alloc ?_ _)); exact BK151.out⟩, ⟨HB.out⟩⟩
         case round =>
          clear H'
          try clear hcz30_0
          try clear hcz30_1
          try clear hfz30_0
          try clear hfz30_1
          obtain ⟨x13_3, x78_3, rfl, HA, HK3, HO_13, HO_76, BK151, HB⟩ := hrel
          cases gk with
          | zero => exact absurd HA.out (by simp [noise_Hide.l0])
          | succ k3 =>
           have H := HA.out
           clear HA
           simp only [noise_Hide.l0] at H
           by_cases c33 : x78_3 < (t161.length : Int)
           ·
            rw [if_pos c33] at H
            have c33b0 : decide (x78_3 < (t161.length : Int)) = true := decide_eq_true c33
            clear c33
            by_cases c34 : 0 ≤ x78_3
            ·
             rw [if_pos c34] at H
             have c34b0 : decide (0 ≤ x78_3) = true := decide_eq_true c34
             clear c34
             by_cases c35 : x78_3 < (t161.length : Int)
             ·
              rw [if_pos c35] at H
              have c35b0 : decide (x78_3 < (t161.length : Int)) = true := decide_eq_true c35
              clear c35
              obtain ⟨y165, hy165⟩ : ∃ y_ : List Int, y_ = (([wrap64 (a1 + x78_3)] : List Int)) := ⟨_, rfl⟩
              replace H : (if x13_3.length < 4398046511104 then (noise_Hide.l0 k3 a1 (x13_3 ++ [(⟨y165, rd t161 x78_3⟩ : S64)]) t161 (t161.length : Int) (wrap64 (x78_3 + 1))) else (none)) = some (r1, r2) := by (rw [hy165]; with_reducible exact H)
              have Ny165 := Aside0.mk hy165
              clear hy165
              by_cases c36 : x13_3.length < 4398046511104
              ·
               rw [if_pos c36] at H
               have LMc36 := Aside0.mk c36
               clear c36
               obtain ⟨y168, hy168⟩ : ∃ y_ : List (S64), y_ = (x13_3 ++ [(⟨y165, rd t161 x78_3⟩ : S64)]) := ⟨_, rfl⟩
               replace H : (noise_Hide.l0 k3 a1 y168 t161 (t161.length : Int) (wrap64 (x78_3 + 1))) = some (r1, r2) := by (rw [hy168]; with_reducible exact H)
               have Ny168 := Aside0.mk hy168
               clear hy168
               have H' := Aside0.mk H
               clear H
               have p164 : 0 ≤ (x78_3 : Int) := of_decide_eq_true (by (with_reducible assumption))
               have q164 : x78_3 < (t161.length : Int) := of_decide_eq_true (by (with_reducible assumption))
               obtain ⟨ad164, e164, hx164_0⟩ := Kd.at_int (Kd.R_reads' HO_76.out).2.2 x78_3 p164 q164
               cases e164
               replace p164 := eq_true p164
               replace q164 := eq_true q164
               go_wp2_with (first | ((with_reducible refine gate_dst (N := 87) rfl ?_); refine Kd.R_lit (Kd.int .i64) _ 3 ?hg (N := 87) ?hd (xs := ([wrap64 (a1 + x78_3)] : List Int)) (inner := [.int .i64 (wrap64 (a1 + x78_3))]) (ok := fun _ => True) (okp := fun _ => True) ?hr ?hp (fun _ hk => hk) trivial (Below.refl _ _) (Nat.le_refl _) (by simp) ?_; (case hd | hg => rfl); (case hr => go_simp; done); (case hp => exact (Reps.one (show Kd.M (Kd.int .i64) _ _ _ (wrap64 (a1 + x78_3)) [.int .i64 (wrap64 (a1 + x78_3))] from rfl) (Reps.none _ _))); intro v166 w37 ho38 hb hg_ hnew_; clear hg_ hnew_; (rw [← Ny165.out] at ho38); replace HO_13 := Aside0.mk (Kd.N_elder' (by (with_reducible repeat (first | apply Kd.N_alloc | apply Kd.N_drewN | apply Kd.N_drew)); exact HO_13.out) (Kd.R_base ho38) hb); have HO167 := Aside0.mk (Kd.R_lower (Kd.R_new' (Kd.R_newM (M := fun k_ => (w.heap.size ≤ k_)) ho38 (below_size HB.out) (fun k_ h_ => h_)) (Kd.R_lt (by (with_reducible repeat (first | apply Kd.R_alloc | apply Kd.R_drewN | apply Kd.R_drew)); exact HO_76.out))) (below_size HB.out)); replace HO_76 := Aside0.mk (Kd.R_elder' (by (with_reducible repeat (first | apply Kd.R_alloc | apply Kd.R_drewN | apply Kd.R_drew)); exact HO_76.out) (Kd.R_base ho38) hb); replace BK151 := Aside0.mk (blk_below (g := gb151) (o := .cells #[.int .i64 a0_0, .int .i64 a0_1] 23 (0, 0)) (by (with_reducible repeat (first | refine blk_drewN ?_ _ | refine blk_drew ?_ | refine blk_alloc ?_ _)); exact BK151.out) hb); replace HB := Aside0.mk (below_step HB.out hb); clear hb ho38; obtain ⟨Ao39, co39, eo39⟩ := Kd.R_slice HO167.out; subst eo39) | ((with_reducible refine gate_builtin (b := .append) (xs := #[.tmp 83, .tmp 90]) rfl ?_); at_builtin; refine Kd.N_append k64 (w0 := w) w.heap.size rfl (.tmp 83) (.tmp 90) 25 64 (.agg #[(.slice none 0 0), (.int .i64 0)]) 32 rfl Try.underlying25 info64 rfl (by decide) (by omega) u13 x13_3 (⟨y165, rd t161 x78_3⟩ : S64) [.slice Ao39 y165.length co39, .int .i64 (rd t161 x78_3)] (fun k_ => (w.heap.size ≤ k_) ∧ some k_ ≠ (.slice (some ad164) t161.length co32 : Value).ownBlock ∧ k_ ≠ gb151) (fun k_ => ((fun k_ => (w.heap.size ≤ k_) ∧ some k_ ≠ (.slice (some ad164) t161.length co32 : Value).ownBlock ∧ k_ ≠ gb151)) k_ ∧ some k_ ≠ (u13 : Value).ownBlock) rfl rfl ?aP (fun _ hk => hk) ?aF ?aO ?aB ?aS ?aL ?_; (case aP => exact (k64_mkF _ _ (⟨y165, rd t161 x78_3⟩ : S64) (Kd.R_reads' (Kd.R_mono (ok' := (fun k_ => ((fun k_ => (w.heap.size ≤ k_) ∧ some k_ ≠ (.slice (some ad164) t161.length co32 : Value).ownBlock ∧ k_ ≠ gb151)) k_ ∧ some k_ ≠ (u13 : Value).ownBlock)) (Kd.R_types (Kd.R_apart' (HO167.out) (Kd.N_typed HO_13.out) (by decide)) BK151.out (by decide)) (fun k_ hk => ⟨⟨hk.1.1.1.1, ⟨hk.1.1.2, hk.2⟩⟩, hk.1.2⟩))).2.1 (Kd.R_F (Kd.R_mono (ok' := (fun k_ => ((fun k_ => (w.heap.size ≤ k_) ∧ some k_ ≠ (.slice (some ad164) t161.length co32 : Value).ownBlock ∧ k_ ≠ gb151)) k_ ∧ some k_ ≠ (u13 : Value).ownBlock)) (Kd.R_types (Kd.R_apart' (HO167.out) (Kd.N_typed HO_13.out) (by decide)) BK151.out (by decide)) (fun k_ hk => ⟨⟨hk.1.1.1.1, ⟨hk.1.1.2, hk.2⟩⟩, hk.1.2⟩))))); (case aB => exact HB.out); (case aF => exact (fun k_ hk => ⟨(Nat.le_trans (below_size HB.out) hk), Kd.fresh' (Kd.R_lt (by (with_reducible repeat (first | apply Kd.R_alloc | apply Kd.R_drewN | apply Kd.R_drew)); exact HO_76.out)) k_ hk, Kd.freshB (g := gb151) (o := .cells #[.int .i64 a0_0, .int .i64 a0_1] 23 (0, 0)) (by (with_reducible repeat (first | refine blk_drewN ?_ _ | refine blk_drew ?_ | refine blk_alloc ?_ _)); exact BK151.out) k_ hk⟩)); (case aO => exact (by (with_reducible repeat (first | apply Kd.N_alloc | apply Kd.N_drewN | apply Kd.N_drew)); exact Kd.N_mono HO_13.out (fun _ hk => ⟨hk.1.1, ⟨hk.1.2.1, hk.1.2.2⟩⟩))); (case aS => exact (below_size HB.out)); (case aL => have := LMc36.out; omega); intro v169 w40 ho hb hg hat; rw [← Ny168.out] at ho; replace HO_76 := Aside0.mk (Kd.R_over' (by (with_reducible repeat (first | apply Kd.R_alloc | apply Kd.R_drewN | apply Kd.R_drew)); exact HO_76.out) (Kd.N_typed (by (with_reducible repeat (first | apply Kd.N_alloc | apply Kd.N_drewN | apply Kd.N_drew)); exact HO_13.out)) (by decide) hg); replace BK151 := Aside0.mk (blk_grown (g := gb151) (o := .cells #[.int .i64 a0_0, .int .i64 a0_1] 23 (0, 0)) (by (with_reducible repeat (first | refine blk_drewN ?_ _ | refine blk_drew ?_ | refine blk_alloc ?_ _)); exact BK151.out) hg (Kd.N_ne HO_13.out BK151.out (by decide))); replace HB := Aside0.mk (hb); have HO170 := Aside0.mk (ho); clear HO_13 HO167; clear ho hb hg hat))
               go_roundg k3
               case measure => have := HJ6.out; have := HJ21.out; have := HK3.out; omega
               case rel => exact ⟨(y168), (wrap64 (x78_3 + 1)), rfl, H', ⟨by have := HJ6.out; have := HJ21.out; have := HK3.out; omega⟩, ⟨by (with_reducible repeat (first | apply Kd.N_alloc | apply Kd.N_drewN | apply Kd.N_drew)); exact HO170.out⟩, ⟨by (with_reducible repeat (first | apply Kd.R_alloc | apply Kd.R_drewN | apply Kd.R_drew)); exact Kd.R_mono HO_76.out (fun _ hk => hk.1)⟩, ⟨by (with_reducible repeat (first | refine blk_drewN ?_ _ | refine blk_drew ?_ | refine blk_alloc ?_ _)); exact BK151.out⟩, ⟨HB.out⟩⟩
              ·
               rw [if_neg c36] at H
               exact absurd H (by simp)
             ·
              rw [if_neg c35] at H
              exact absurd H (by simp)
            ·
             rw [if_neg c34] at H
             exact absurd H (by simp)
           ·
            rw [if_neg c33] at H
            have c33b0 : decide (x78_3 < (t161.length : Int)) = false := decide_eq_false c33
            clear c33
            obtain ⟨⟨t171, t174⟩, A41, H⟩ := bnd_ H
            dsimp only at H
            simp only [Option.some.injEq, Prod.mk.injEq] at H
            obtain ⟨rfl, rfl⟩ := H
            obtain ⟨Ao42, co42, eo42⟩ := Kd.N_slice HO_13.out
            subst eo42
            go_wp2_with (((with_reducible refine gate_callee (f := 30) rfl ?_); refine goesL_ (some 94) rfl rfl Try.func30 (by kernel_rfl) rfl #[.slice Ao42 x13_3.length co42] rfl (by (try simp only [List.map_toArray, List.map_cons, List.map_nil]); rfl) ?_; (with_reducible refine (dist_Make.calls k3 _ _ x13_3 t171 t174 _ ?side1 ?side2 A41.out).mono ?_); (case side1 => repeat (exact (Kd.N_reads' HO_13.out).2.2)); (case side2 => exact (Kd.N_reads' HO_13.out).2.1); rintro e w43 ⟨v172, rfl, ho0, hb⟩; refine ⟨_, rfl, ?_⟩; have HO173 := Aside0.mk (Kd.N_lower (Kd.N_mono (ok' := fun k_ => (w.heap.size ≤ k_) ∧ some k_ ≠ (.slice Ao42 x13_3.length co42 : Value).ownBlock ∧ some k_ ≠ (.slice Ao32 t161.length co32 : Value).ownBlock ∧ k_ ≠ gb151) ho0 (fun k_ hk_ => ⟨(Nat.le_trans (below_size HB.out) hk_), (Kd.fresh' (Kd.N_lt (by (with_reducible repeat (first | apply Kd.N_alloc | apply Kd.N_drewN | apply Kd.N_drew)); exact HO_13.out)) k_ hk_), (Kd.fresh' (Kd.R_lt (by (with_reducible repeat (first | apply Kd.R_alloc | apply Kd.R_drewN | apply Kd.R_drew)); exact HO_76.out)) k_ hk_), (Kd.freshB (g := gb151) (o := .cells #[.int .i64 a0_0, .int .i64 a0_1] 23 (0, 0)) (by (with_reducible repeat (first | refine blk_drewN ?_ _ | refine blk_drew ?_ | refine blk_alloc ?_ _)); exact BK151.out) k_ hk_)⟩)) (below_size HB.out)); replace HO_13 := Aside0.mk (Kd.N_elder' (by (with_reducible repeat (first | apply Kd.N_alloc | apply Kd.N_drewN | apply Kd.N_drew)); exact HO_13.out) (Kd.N_base ho0) hb); replace HO_76 := Aside0.mk (Kd.R_below (by (with_reducible repeat (first | apply Kd.R_alloc | apply Kd.R_drewN | apply Kd.R_drew)); exact HO_76.out) hb); replace BK151 := Aside0.mk (blk_below (g := gb151) (o := .cells #[.int .i64 a0_0, .int .i64 a0_1] 23 (0, 0)) (by (with_reducible repeat (first | refine blk_drewN ?_ _ | refine blk_drew ?_ | refine blk_alloc ?_ _)); exact BK151.out) hb); replace HB := Aside0.mk (below_step HB.out hb); (try clear hb); (try clear ho0)))
            go_ret2
            exact ⟨_, rfl, by (with_reducible repeat (first | apply Kd.N_alloc | apply Kd.N_drewN | apply Kd.N_drew)); exact Kd.N_mono HO173.out (fun _ hk => hk.1), HB.out⟩
 ·
  rw [if_neg c6] at H
  have c6b0 : (t152 == 0) = false := beq_eq_false_iff_ne.mpr c6
  have c6b1 : (t152 != 0) = true := bne_iff_ne.mpr c6
  simp only [Option.some.injEq, Prod.mk.injEq] at H
  obtain ⟨rfl, rfl⟩ := H
  go_enter Try.func9, Try.ntmps9
  go_wp2_with (first | ((with_reducible refine gate_dst (N := 4) rfl ?_); refine box_event ?hg (N := 4) ?hd (cs := #[.int .i64 a0_0, .int .i64 a0_1]) (t := 23) ?hr ?_; (case hd | hg => rfl); (case hr => go_simp; done); intro gb151 hg w44 hbox hb; have BK151 := Aside0.mk (hbox); have GW151 := gw_ HB.out hg; have GE151 := gw_ HB.out hg; replace HB := Aside0.mk (below_step HB.out hb); clear hb hbox hg; have hcz45_0 := cz0_ BK151; have hcz45_1 := cz1_ BK151; have hfz45_0 := blk_frozen BK151.out 0; have hfz45_1 := blk_frozen BK151.out 1) | ((with_reducible refine gate_callee (f := 26) rfl ?_); refine goesL_ (some 17) rfl rfl Try.func26 (by kernel_rfl) rfl #[.agg #[.int .i64 a0_0, .int .i64 a0_1]] rfl (by (try simp only [List.map_toArray, List.map_cons, List.map_nil]); rfl) ?_; (with_reducible refine (noise_loss.calls k a0_0 a0_1 t152 _ A5.out).mono ?_); rintro e w46 ⟨rfl, hb⟩; refine ⟨_, rfl, ?_⟩; replace BK151 := Aside0.mk (blk_below (g := gb151) (o := .cells #[.int .i64 a0_0, .int .i64 a0_1] 23 (0, 0)) (by (with_reducible repeat (first | refine blk_drewN ?_ _ | refine blk_drew ?_ | refine blk_alloc ?_ _)); exact BK151.out) hb); replace HB := Aside0.mk (below_step HB.out hb); (try clear hb)))
  go_ret2
  exact ⟨_, rfl, by exact Kd.N_nil _ _ _ _ _, HB.out⟩

end Go.Proofs.Ytjbgnlhgjgnclaa.PB

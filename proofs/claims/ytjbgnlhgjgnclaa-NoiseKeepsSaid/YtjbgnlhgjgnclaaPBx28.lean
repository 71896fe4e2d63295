
/- Functions of the program in Lean, by wip/xprint.py. Conditions: in each theorem. -/
import Derived.Test.YtjbgnlhgjgnclaaPBxs
import Derived.Test.YtjbgnlhgjgnclaaPBx0
import Derived.Test.YtjbgnlhgjgnclaaPBx1
import Derived.Test.YtjbgnlhgjgnclaaPBx8
import Derived.Test.YtjbgnlhgjgnclaaPBx9
import Derived.Test.YtjbgnlhgjgnclaaPBx20
import Derived.Test.YtjbgnlhgjgnclaaPBx25
import Derived.Test.YtjbgnlhgjgnclaaPBx27
namespace Go.Proofs.Ytjbgnlhgjgnclaa.PB
open Go.RowKit Go.Proofs.YtjbgnlhgjgnclaaW.PrintWords Go.Proofs.YtjbgnlhgjgnclaaW.PrintLast Go.Proofs.YtjbgnlhgjgnclaaW.PrintMore
attribute [local go_sem] max2_int min2_int max_two min_two max_three min_three max_four min_four   -- for this text's walks alone
set_option linter.unusedVariables false
set_option linter.unusedSimpArgs false

attribute [local go_sem high] eqA23
/-! ### hushlaw6_NoiseKeeps: function 3 -/
mutual
def hushlaw6_NoiseKeeps.j0 : Nat → Int → Int → Int → Int → List (S64) → List (S64) → Bool → Int → Int → Option (Bool)
 | 0, _, _, _, _, _, _, _, _, _ => none
 | k + 1, x1, x2, x3, x4, x11, x13, x49, x409000, x409001 => if x49 = true then ((hushref2_Same.f k x11 x13).bind fun t418 => (some t418)) else (if x3 < x1 then (hushlaw6_NoiseKeeps.j1 k x3 x4 x11 x13 true x409000 x409001) else (if x4 < x1 then (hushlaw6_NoiseKeeps.j1 k x3 x4 x11 x13 true x409000 x409001) else (if x3 > x2 then (hushlaw6_NoiseKeeps.j1 k x3 x4 x11 x13 true x409000 x409001) else (hushlaw6_NoiseKeeps.j1 k x3 x4 x11 x13 (decide (x4 > x2)) x409000 x409001))))
def hushlaw6_NoiseKeeps.j1 : Nat → Int → Int → List (S64) → List (S64) → Bool → Int → Int → Option (Bool)
 | 0, _, _, _, _, _, _, _ => none
 | k + 1, x3, x4, x11, x13, x70, x409000, x409001 => if x70 = true then (some true) else (if (wrap64 (x3 - x4)) < 0 then ((hushref1_Power.f k x409000 x409001 (wrap64 (-(wrap64 (x3 - x4))))).bind fun bt419 => ((dist_Far.f k x11 x13).bind fun bt423 => (if bt419.2.2 = bt423.2.2 then (some (bt423.1 == bt419.1 && (bt423.2.1 == bt419.2.1))) else (some false)))) else ((hushref1_Power.f k x409000 x409001 (wrap64 (x3 - x4))).bind fun bt427 => ((dist_Far.f k x11 x13).bind fun bt431 => (if bt427.2.2 = bt431.2.2 then (some (bt431.1 == bt427.1 && (bt431.2.1 == bt427.2.1))) else (some false)))))
end
def hushlaw6_NoiseKeeps.f (k : Nat) (a0_0 : Int) (a0_1 : Int) (a1 : Int) (a2 : Int) (a3 : Int) (a4 : Int) : Option (Bool) := (hushlaw6_alive.f k).bind fun t409 => (if t409 = true then ((noise_Hide.f k a0_0 a0_1 a1 a2 a3).bind fun bt410 => (if bt410.2 = 0 then ((noise_Hide.f k a0_0 a0_1 a1 a2 a4).bind fun bt414 => (if bt414.2 = 0 then (if a0_0 = a0_1 then (hushlaw6_NoiseKeeps.j0 k a1 a2 a3 a4 bt410.1 bt414.1 true a0_0 a0_1) else (hushlaw6_NoiseKeeps.j0 k a1 a2 a3 a4 bt410.1 bt414.1 (a1 == a2) a0_0 a0_1)) else (some false))) else (some true))) else (some false))
theorem hushlaw6_NoiseKeeps.mono_l : ∀ k, (∀ y0 y1 y2 y3 y4 y5 y6 y7 y8, LeO (hushlaw6_NoiseKeeps.j0 k y0 y1 y2 y3 y4 y5 y6 y7 y8) (hushlaw6_NoiseKeeps.j0 (k + 1) y0 y1 y2 y3 y4 y5 y6 y7 y8)) ∧ (∀ y0 y1 y2 y3 y4 y5 y6, LeO (hushlaw6_NoiseKeeps.j1 k y0 y1 y2 y3 y4 y5 y6) (hushlaw6_NoiseKeeps.j1 (k + 1) y0 y1 y2 y3 y4 y5 y6))
 | 0 => ⟨fun _ _ _ _ _ _ _ _ _ r h => by simp [hushlaw6_NoiseKeeps.j0] at h, fun _ _ _ _ _ _ _ r h => by simp [hushlaw6_NoiseKeeps.j1] at h⟩
 | k + 1 => by
  obtain ⟨ih0, ih1⟩ := hushlaw6_NoiseKeeps.mono_l k
  refine ⟨?_, ?_⟩
  ·
   intro y0 y1 y2 y3 y4 y5 y6 y7 y8
   unfold hushlaw6_NoiseKeeps.j0
   repeat' first
   | (with_reducible exact ih1 _ _ _ _ _ _ _)
   | (with_reducible exact hushref2_Same.mono _ _ _)
   | (with_reducible exact LeO.refl _)
   | (with_reducible refine LeO.ite ?_ ?_)
   | (with_reducible refine LeO.bind ?_ (fun _ => ?_))
  ·
   intro y0 y1 y2 y3 y4 y5 y6
   unfold hushlaw6_NoiseKeeps.j1
   repeat' first
   | (with_reducible exact dist_Far.mono _ _ _)
   | (with_reducible exact hushref1_Power.mono _ _ _ _)
   | (with_reducible exact LeO.refl _)
   | (with_reducible refine LeO.ite ?_ ?_)
   | (with_reducible refine LeO.bind ?_ (fun _ => ?_))
theorem hushlaw6_NoiseKeeps.mono : ∀ a0 a1 a2 a3 a4 a5 k, LeO (hushlaw6_NoiseKeeps.f k a0 a1 a2 a3 a4 a5) (hushlaw6_NoiseKeeps.f (k + 1) a0 a1 a2 a3 a4 a5) := by
 intro a0 a1 a2 a3 a4 a5 k
 obtain ⟨ih0, ih1⟩ := hushlaw6_NoiseKeeps.mono_l k
 unfold hushlaw6_NoiseKeeps.f
 repeat' first
   | (with_reducible exact ih0 _ _ _ _ _ _ _ _ _)
   | (with_reducible exact hushlaw6_alive.mono _)
   | (with_reducible exact noise_Hide.mono _ _ _ _ _ _)
   | (with_reducible exact LeO.refl _)
   | (with_reducible refine LeO.ite ?_ ?_)
   | (with_reducible refine LeO.bind ?_ (fun _ => ?_))
set_option maxHeartbeats 8000000 in
set_option maxRecDepth 100000 in
theorem hushlaw6_NoiseKeeps.calls (k : Nat) (a0_0 : Int) (a0_1 : Int) (a1 : Int) (a2 : Int) (a3 : Int) (a4 : Int) (r : Bool) (w : World) (h : hushlaw6_NoiseKeeps.f k a0_0 a0_1 a1 a2 a3 a4 = some r) :
  Calls Try.prog 3 #[.agg #[.int .i64 a0_0, .int .i64 a0_1], .int .i64 a1, .int .i64 a2, .int .i64 a3, .int .i64 a4] w fun e w' => e = .returned (.bool r) ∧ Below w.heap.size w w' := by
 have hu23 := Try.underlying23
 have HB := Aside0.mk (Below.refl w.heap.size w)
 have H : ((hushlaw6_alive.f k).bind fun t409 => (if t409 = true then ((noise_Hide.f k a0_0 a0_1 a1 a2 a3).bind fun bt410 => (if bt410.2 = 0 then ((noise_Hide.f k a0_0 a0_1 a1 a2 a4).bind fun bt414 => (if bt414.2 = 0 then (if a0_0 = a0_1 then (hushlaw6_NoiseKeeps.j0 k a1 a2 a3 a4 bt410.1 bt414.1 true a0_0 a0_1) else (hushlaw6_NoiseKeeps.j0 k a1 a2 a3 a4 bt410.1 bt414.1 (a1 == a2) a0_0 a0_1)) else (some false))) else (some true))) else (some false))) = some r := h
 clear h
 obtain ⟨t409, A6, H⟩ := bnd_ H
 by_cases c7 : t409 = true
 ·
  subst c7
  rw [if_pos rfl] at H
  obtain ⟨⟨t410, t413⟩, A8, H⟩ := bnd_ H
  dsimp only at H
  by_cases c9 : t413 = 0
  ·
   rw [if_pos c9] at H
   have c9b0 : (t413 == 0) = true := beq_iff_eq.mpr c9
   have c9b1 : (t413 != 0) = false := bne_eq_false_iff_eq.mpr c9
   clear c9
   obtain ⟨⟨t414, t417⟩, A10, H⟩ := bnd_ H
   dsimp only at H
   by_cases c11 : t417 = 0
   ·
    rw [if_pos c11] at H
    have c11b0 : (t417 == 0) = true := beq_iff_eq.mpr c11
    have c11b1 : (t417 != 0) = false := bne_eq_false_iff_eq.mpr c11
    clear c11
    have HC12 := Aside0.mk H
    clear H
    go_enter Try.func3, Try.ntmps3
    go_upto_region 9 with (first | ((with_reducible refine gate_dst (N := 5) rfl ?_); refine box_event ?hg (N := 5) ?hd (cs := #[.int .i64 a0_0, .int .i64 a0_1]) (t := 23) ?hr ?_; (case hd | hg => rfl); (case hr => go_simp; done); intro gb408 hg w13 hbox hb; have BK408 := Aside0.mk (hbox); have GW408 := gw_ HB.out hg; have GE408 := gw_ HB.out hg; replace HB := Aside0.mk (below_step HB.out hb); clear hb hbox hg) | ((with_reducible refine gate_callee (f := 8) rfl ?_); refine goesL_ (some 18) rfl rfl Try.func8 (by kernel_rfl) rfl #[] rfl (by (try simp only [List.map_toArray, List.map_cons, List.map_nil]); done) ?_; (with_reducible refine (hushlaw6_alive.calls k  true _ A6.out).mono ?_); rintro e w14 ⟨rfl, hb⟩; refine ⟨_, rfl, ?_⟩; replace BK408 := Aside0.mk (blk_below (g := gb408) (o := .cells #[.int .i64 a0_0, .int .i64 a0_1] 23 (0, 0)) (by (with_reducible repeat (first | refine blk_drewN ?_ _ | refine blk_drew ?_ | refine blk_alloc ?_ _)); exact BK408.out) hb); replace HB := Aside0.mk (below_step HB.out hb); (try clear hb); have hcz15_0 := cz0_ BK408; have hcz15_1 := cz1_ BK408; have hfz15_0 := blk_frozen BK408.out 0; have hfz15_1 := blk_frozen BK408.out 1) | ((with_reducible refine gate_callee (f := 9) rfl ?_); refine goesL_ (some 25) rfl rfl Try.func9 (by kernel_rfl) rfl #[.agg #[.int .i64 a0_0, .int .i64 a0_1], .int .i64 a1, .int .i64 a2, .int .i64 a3] rfl (by (try simp only [List.map_toArray, List.map_cons, List.map_nil]); rfl) ?_; (with_reducible refine (noise_Hide.calls k a0_0 a0_1 a1 a2 a3 t410 t413 _ A8.out).mono ?_); rintro e w16 ⟨v411, rfl, ho0, hb⟩; refine ⟨_, rfl, ?_⟩; have HO412 := Aside0.mk (Kd.N_lower (Kd.N_mono (ok' := fun k_ => k_ ≠ gb408) ho0 (fun k_ hk_ => (Kd.freshB (g := gb408) (o := .cells #[.int .i64 a0_0, .int .i64 a0_1] 23 (0, 0)) (by (with_reducible repeat (first | refine blk_drewN ?_ _ | refine blk_drew ?_ | refine blk_alloc ?_ _)); exact BK408.out) k_ hk_))) (below_size HB.out)); replace BK408 := Aside0.mk (blk_below (g := gb408) (o := .cells #[.int .i64 a0_0, .int .i64 a0_1] 23 (0, 0)) (by (with_reducible repeat (first | refine blk_drewN ?_ _ | refine blk_drew ?_ | refine blk_alloc ?_ _)); exact BK408.out) hb); replace HB := Aside0.mk (below_step HB.out hb); (try clear hb); (try clear ho0); have hcz17_0 := cz0_ BK408; have hcz17_1 := cz1_ BK408; have hfz17_0 := blk_frozen BK408.out 0; have hfz17_1 := blk_frozen BK408.out 1) | ((with_reducible refine gate_callee (f := 9) rfl ?_); refine goesL_ (some 35) rfl rfl Try.func9 (by kernel_rfl) rfl #[.agg #[.int .i64 a0_0, .int .i64 a0_1], .int .i64 a1, .int .i64 a2, .int .i64 a4] rfl (by (try simp only [List.map_toArray, List.map_cons, List.map_nil]); rfl) ?_; (with_reducible refine (noise_Hide.calls k a0_0 a0_1 a1 a2 a4 t414 t417 _ A10.out).mono ?_); rintro e w18 ⟨v415, rfl, ho0, hb⟩; refine ⟨_, rfl, ?_⟩; have HO416 := Aside0.mk (Kd.N_lower (Kd.N_mono (ok' := fun k_ => some k_ ≠ (v411 : Value).ownBlock ∧ k_ ≠ gb408) ho0 (fun k_ hk_ => ⟨(Kd.fresh' (Kd.N_lt (by (with_reducible repeat (first | apply Kd.N_alloc | apply Kd.N_drewN | apply Kd.N_drew)); exact HO412.out)) k_ hk_), (Kd.freshB (g := gb408) (o := .cells #[.int .i64 a0_0, .int .i64 a0_1] 23 (0, 0)) (by (with_reducible repeat (first | refine blk_drewN ?_ _ | refine blk_drew ?_ | refine blk_alloc ?_ _)); exact BK408.out) k_ hk_)⟩)) (below_size HB.out)); replace HO412 := Aside0.mk (Kd.N_elder' (by (with_reducible repeat (first | apply Kd.N_alloc | apply Kd.N_drewN | apply Kd.N_drew)); exact HO412.out) (Kd.N_base ho0) hb); replace BK408 := Aside0.mk (blk_below (g := gb408) (o := .cells #[.int .i64 a0_0, .int .i64 a0_1] 23 (0, 0)) (by (with_reducible repeat (first | refine blk_drewN ?_ _ | refine blk_drew ?_ | refine blk_alloc ?_ _)); exact BK408.out) hb); replace HB := Aside0.mk (below_step HB.out hb); (try clear hb); (try clear ho0)))
    go_cut [49] (fun v49 wc => ∃ (kq : Nat) (x49_11 : Bool), v49 = .bool x49_11 ∧ Aside0 (hushlaw6_NoiseKeeps.j0 kq a1 a2 a3 a4 t410 t414 x49_11 a0_0 a0_1 = some r) ∧ Aside0 (kq ≤ k) ∧ Aside0 (Kd.N k64 64 wc w.heap.size (fun k_ => some k_ ≠ (v415 : Value).ownBlock ∧ k_ ≠ gb408) v411 t410) ∧ Aside0 (Kd.N k64 64 wc w.heap.size (fun k_ => some k_ ≠ (v411 : Value).ownBlock ∧ k_ ≠ gb408) v415 t414) ∧ Aside0 (wc.heap[gb408]? = some (.cells #[.int .i64 a0_0, .int .i64 a0_1] 23 (0, 0))) ∧ Aside0 (Below w.heap.size w wc))
    case first =>
     have H := HC12.out
     clear HC12
     by_cases c19 : a0_0 = a0_1
     ·
      rw [if_pos c19] at H
      have c19b0 : (a0_0 == a0_1) = true := beq_iff_eq.mpr c19
      have c19b1 : (a0_0 != a0_1) = false := bne_eq_false_iff_eq.mpr c19
      clear c19
      have H' := Aside0.mk H
      clear H
      have hcz20_0 := cz0_ BK408
      have hcz20_1 := cz1_ BK408
      have hfz20_0 := blk_frozen BK408.out 0
      have hfz20_1 := blk_frozen BK408.out 1
      go_wp2
      go_meet
      case rel => exact ⟨_, (true), rfl, H', ⟨by omega⟩, ⟨by (with_reducible repeat (first | apply Kd.N_alloc | apply Kd.N_drewN | apply Kd.N_drew)); exact Kd.N_mono HO412.out (fun _ hk => ⟨hk.2, hk.1⟩)⟩, ⟨by (with_reducible repeat (first | apply Kd.N_alloc | apply Kd.N_drewN | apply Kd.N_drew)); exact HO416.out⟩, ⟨by (with_reducible repeat (first | refine blk_drewN ?_ _ | refine blk_drew ?_ | refine blk_alloc ?_ _)); exact BK408.out⟩, ⟨HB.out⟩⟩
     ·
      rw [if_neg c19] at H
      have c19b0 : (a0_0 == a0_1) = false := beq_eq_false_iff_ne.mpr c19
      have c19b1 : (a0_0 != a0_1) = true := bne_iff_ne.mpr c19
      have H' := Aside0.mk H
      clear H
      have hcz21_0 := cz0_ BK408
      have hcz21_1 := cz1_ BK408
      have hfz21_0 := blk_frozen BK408.out 0
      have hfz21_1 := blk_frozen BK408.out 1
      go_wp2
      go_meet
      case rel => exact ⟨_, ((a1 == a2)), rfl, H', ⟨by omega⟩, ⟨by (with_reducible repeat (first | apply Kd.N_alloc | apply Kd.N_drewN | apply Kd.N_drew)); exact Kd.N_mono HO412.out (fun _ hk => ⟨hk.2, hk.1⟩)⟩, ⟨by (with_reducible repeat (first | apply Kd.N_alloc | apply Kd.N_drewN | apply Kd.N_drew)); exact HO416.out⟩, ⟨by (with_reducible repeat (first | refine blk_drewN ?_ _ | refine blk_drew ?_ | refine blk_alloc ?_ _)); exact BK408.out⟩, ⟨HB.out⟩⟩
    case rest =>
     clear HC12
     try clear c9b0
     try clear c9b1
     try clear c11b0
     try clear c11b1
     try clear hcz15_0
     try clear hcz15_1
     try clear hcz17_0
     try clear hcz17_1
     try clear hfz15_0
     try clear hfz15_1
     try clear hfz17_0
     try clear hfz17_1
     obtain ⟨kq, x49_11, rfl, HA, HJ11, HO_11, HO_13, BK408, HB⟩ := hcut
     cases kq with
     | zero => exact absurd HA.out (by simp [hushlaw6_NoiseKeeps.j0])
     | succ kj11 =>
      have H := HA.out
      clear HA
      simp only [hushlaw6_NoiseKeeps.j0] at H
      by_cases c22 : x49_11 = true
      ·
       subst c22
       rw [if_pos rfl] at H
       obtain ⟨t418, A23, H⟩ := bnd_ H
       obtain rfl := Option.some.inj H
       obtain ⟨Ao24, co24, eo24⟩ := Kd.N_slice HO_11.out
       subst eo24
       obtain ⟨Ao25, co25, eo25⟩ := Kd.N_slice HO_13.out
       subst eo25
       go_wp2_with (((with_reducible refine gate_callee (f := 10) rfl ?_); refine goesL_ (some 52) rfl rfl Try.func10 (by kernel_rfl) rfl #[.slice Ao24 t410.length co24, .slice Ao25 t414.length co25] rfl (by (try simp only [List.map_toArray, List.map_cons, List.map_nil]); rfl) ?_; (with_reducible refine (hushref2_Same.calls kj11 _ _ t410 _ _ t414 t418 _ ?side1 ?side2 ?side3 ?side4 A23.out).mono ?_); (case side1 => repeat (exact (Kd.N_reads' HO_11.out).2.2)); (case side2 => exact (Kd.N_reads' HO_11.out).2.1); (case side3 => repeat (exact (Kd.N_reads' HO_13.out).2.2)); (case side4 => exact (Kd.N_reads' HO_13.out).2.1); rintro e w' ⟨rfl, ⟨nd, rfl⟩⟩; refine ⟨_, rfl, ?_⟩))
       go_ret
       exact ⟨rfl, by repeat (with_reducible first | exact HB.out | apply pw_below_drewN)⟩
      ·
       replace c22 := Bool.eq_false_iff.mpr c22
       subst c22
       rw [if_neg (show ¬ (false = true) by decide)] at H
       have HC26 := Aside0.mk H
       clear H
       go_upto_region 11 with (fail)
       go_cut [70] (fun v70 wc => ∃ (kq : Nat) (x70_25 : Bool), v70 = .bool x70_25 ∧ Aside0 (hushlaw6_NoiseKeeps.j1 kq a3 a4 t410 t414 x70_25 a0_0 a0_1 = some r) ∧ Aside0 (kq ≤ kj11) ∧ Aside0 (Kd.N k64 64 wc w.heap.size (fun k_ => some k_ ≠ (v415 : Value).ownBlock ∧ k_ ≠ gb408) v411 t410) ∧ Aside0 (Kd.N k64 64 wc w.heap.size (fun k_ => some k_ ≠ (v411 : Value).ownBlock ∧ k_ ≠ gb408) v415 t414) ∧ Aside0 (wc.heap[gb408]? = some (.cells #[.int .i64 a0_0, .int .i64 a0_1] 23 (0, 0))) ∧ Aside0 (Below w.heap.size w wc))
       case first =>
        have H := HC26.out
        clear HC26
        by_cases c27 : a3 < a1
        ·
         rw [if_pos c27] at H
         have c27b0 : decide (a3 < a1) = true := decide_eq_true c27
         clear c27
         have H' := Aside0.mk H
         clear H
         go_wp2
         go_meet
         case rel => exact ⟨_, (true), rfl, H', ⟨by have := HJ11.out; omega⟩, ⟨by (with_reducible repeat (first | apply Kd.N_alloc | apply Kd.N_drewN | apply Kd.N_drew)); exact HO_11.out⟩, ⟨by (with_reducible repeat (first | apply Kd.N_alloc | apply Kd.N_drewN | apply Kd.N_drew)); exact HO_13.out⟩, ⟨by (with_reducible repeat (first | refine blk_drewN ?_ _ | refine blk_drew ?_ | refine blk_alloc ?_ _)); exact BK408.out⟩, ⟨HB.out⟩⟩
        ·
         rw [if_neg c27] at H
         have c27b0 : decide (a3 < a1) = false := decide_eq_false c27
         clear c27
         by_cases c28 : a4 < a1
         ·
          rw [if_pos c28] at H
          have c28b0 : decide (a4 < a1) = true := decide_eq_true c28
          clear c28
          have H' := Aside0.mk H
          clear H
          go_wp2
          go_meet
          case rel => exact ⟨_, (true), rfl, H', ⟨by have := HJ11.out; omega⟩, ⟨by (with_reducible repeat (first | apply Kd.N_alloc | apply Kd.N_drewN | apply Kd.N_drew)); exact HO_11.out⟩, ⟨by (with_reducible repeat (first | apply Kd.N_alloc | apply Kd.N_drewN | apply Kd.N_drew)); exact HO_13.out⟩, ⟨by (with_reducible repeat (first | refine blk_drewN ?_ _ | refine blk_drew ?_ | refine blk_alloc ?_ _)); exact BK408.out⟩, ⟨HB.out⟩⟩
         ·
          rw [if_neg c28] at H
          have c28b0 : decide (a4 < a1) = false := decide_eq_false c28
          clear c28
          by_cases c29 : a3 > a2
          ·
           rw [if_pos c29] at H
           have c29b0 : decide (a2 < a3) = true := decide_eq_true c29
           clear c29
           have H' := Aside0.mk H
           clear H
           go_wp2
           go_meet
           case rel => exact ⟨_, (true), rfl, H', ⟨by have := HJ11.out; omega⟩, ⟨by (with_reducible repeat (first | apply Kd.N_alloc | apply Kd.N_drewN | apply Kd.N_drew)); exact HO_11.out⟩, ⟨by (with_reducible repeat (first | apply Kd.N_alloc | apply Kd.N_drewN | apply Kd.N_drew)); exact HO_13.out⟩, ⟨by (with_reducible repeat (first | refine blk_drewN ?_ _ | refine blk_drew ?_ | refine blk_alloc ?_ _)); exact BK408.out⟩, ⟨HB.out⟩⟩
          ·
           rw [if_neg c29] at H
           have c29b0 : decide (a2 < a3) = false := decide_eq_false c29
           clear c29
           have H' := Aside0.mk H
           clear H
           go_wp2
           go_meet
           case rel => exact ⟨_, (decide (a4 > a2)), rfl, H', ⟨by have := HJ11.out; omega⟩, ⟨by (with_reducible repeat (first | apply Kd.N_alloc | apply Kd.N_drewN | apply Kd.N_drew)); exact HO_11.out⟩, ⟨by (with_reducible repeat (first | apply Kd.N_alloc | apply Kd.N_drewN | apply Kd.N_drew)); exact HO_13.out⟩, ⟨by (with_reducible repeat (first | refine blk_drewN ?_ _ | refine blk_drew ?_ | refine blk_alloc ?_ _)); exact BK408.out⟩, ⟨HB.out⟩⟩
       case rest =>
        clear HC26
        obtain ⟨kq, x70_25, rfl, HA, HJ25, HO_11, HO_13, BK408, HB⟩ := hcut
        cases kq with
        | zero => exact absurd HA.out (by simp [hushlaw6_NoiseKeeps.j1])
        | succ kj25 =>
         have H := HA.out
         clear HA
         simp only [hushlaw6_NoiseKeeps.j1] at H
         by_cases c30 : x70_25 = true
         ·
          subst c30
          rw [if_pos rfl] at H
          obtain rfl := Option.some.inj H
          go_wp2
          go_ret
          exact ⟨rfl, HB.out⟩
         ·
          replace c30 := Bool.eq_false_iff.mpr c30
          subst c30
          rw [if_neg (show ¬ (false = true) by decide)] at H
          by_cases c31 : (wrap64 (a3 - a4)) < 0
          ·
           rw [if_pos c31] at H
           have c31b0 : decide ((wrap64 (a3 - a4)) < 0) = true := decide_eq_true c31
           clear c31
           obtain ⟨⟨t419, t420, t421⟩, A32, H⟩ := bnd_ H
           dsimp only at H
           obtain ⟨⟨t423, t424, t425⟩, A33, H⟩ := bnd_ H
           dsimp only at H
           by_cases c34 : t421 = t425
           ·
            rw [if_pos c34] at H
            have c34b0 : (t421 == t425) = true := beq_iff_eq.mpr c34
            have c34b1 : (t421 != t425) = false := bne_eq_false_iff_eq.mpr c34
            clear c34
            obtain rfl := Option.some.inj H
            have hcz35_0 := cz0_ BK408
            have hcz35_1 := cz1_ BK408
            have hfz35_0 := blk_frozen BK408.out 0
            have hfz35_1 := blk_frozen BK408.out 1
            go_wp2_with (first | ((with_reducible refine gate_callee (f := 11) rfl ?_); refine goesL_ (some 81) rfl rfl Try.func11 (by kernel_rfl) rfl #[.agg #[.int .i64 a0_0, .int .i64 a0_1], .int .i64 (wrap64 (-(wrap64 (a3 - a4))))] rfl (by (try simp only [List.map_toArray, List.map_cons, List.map_nil]); rfl) ?_; (with_reducible refine (hushref1_Power.calls kj25 a0_0 a0_1 (wrap64 (-(wrap64 (a3 - a4)))) t419 t420 t421 _ A32.out).mono ?_); rintro e w36 ⟨rfl, hb⟩; refine ⟨_, rfl, ?_⟩; replace HO_11 := Aside0.mk (Kd.N_below (by (with_reducible repeat (first | apply Kd.N_alloc | apply Kd.N_drewN | apply Kd.N_drew)); exact HO_11.out) hb); replace HO_13 := Aside0.mk (Kd.N_below (by (with_reducible repeat (first | apply Kd.N_alloc | apply Kd.N_drewN | apply Kd.N_drew)); exact HO_13.out) hb); replace BK408 := Aside0.mk (blk_below (g := gb408) (o := .cells #[.int .i64 a0_0, .int .i64 a0_1] 23 (0, 0)) (by (with_reducible repeat (first | refine blk_drewN ?_ _ | refine blk_drew ?_ | refine blk_alloc ?_ _)); exact BK408.out) hb); replace HB := Aside0.mk (below_step HB.out hb); (try clear hb)) | ((with_reducible refine gate_dst (N := 15) rfl ?_); refine box_event ?hg (N := 15) ?hd (cs := #[.int .i64 0, .int .i64 0]) (t := 23) ?hr ?_; (case hd | hg => rfl); (case hr => go_simp; done); intro gb422 hg w37 hbox hb; replace HO_11 := Aside0.mk (Kd.N_below (Kd.N_elderB (by (with_reducible repeat (first | apply Kd.N_alloc | apply Kd.N_drewN | apply Kd.N_drew)); exact HO_11.out) gb422 (Nat.le_of_eq hg.symm)) hb); replace HO_13 := Aside0.mk (Kd.N_below (Kd.N_elderB (by (with_reducible repeat (first | apply Kd.N_alloc | apply Kd.N_drewN | apply Kd.N_drew)); exact HO_13.out) gb422 (Nat.le_of_eq hg.symm)) hb); have BK422 := Aside0.mk (hbox); have GW422 := gw_ HB.out hg; have GE422 := gw_ HB.out hg; replace HB := Aside0.mk (below_step HB.out hb); have NB408_422 := Aside0.mk ((by rw [hg]; exact Nat.ne_of_lt (blk_lt (g := gb408) (o := .cells #[.int .i64 a0_0, .int .i64 a0_1] 23 (0, 0)) (by (with_reducible repeat (first | refine blk_drewN ?_ _ | refine blk_drew ?_ | refine blk_alloc ?_ _)); exact BK408.out)) : gb408 ≠ gb422)); have NB422_408 := Aside0.mk ((by rw [hg]; exact Nat.ne_of_gt (blk_lt (g := gb408) (o := .cells #[.int .i64 a0_0, .int .i64 a0_1] 23 (0, 0)) (by (with_reducible repeat (first | refine blk_drewN ?_ _ | refine blk_drew ?_ | refine blk_alloc ?_ _)); exact BK408.out)) : gb422 ≠ gb408)); replace BK408 := Aside0.mk (blk_below (g := gb408) (o := .cells #[.int .i64 a0_0, .int .i64 a0_1] 23 (0, 0)) (by (with_reducible repeat (first | refine blk_drewN ?_ _ | refine blk_drew ?_ | refine blk_alloc ?_ _)); exact BK408.out) hb); clear hb hbox hg; have hnb38 := NB422_408.out; have hnc38 := NB408_422.out; have hcz39_0 := cz0_ BK422; have hcz39_1 := cz1_ BK422; have hfz39_0 := blk_frozen BK422.out 0; have hfz39_1 := blk_frozen BK422.out 1; obtain ⟨Ao40, co40, eo40⟩ := Kd.N_slice HO_11.out; subst eo40; obtain ⟨Ao41, co41, eo41⟩ := Kd.N_slice HO_13.out; subst eo41) | ((with_reducible refine gate_callee (f := 12) rfl ?_); refine goesL_ (some 87) rfl rfl Try.func12 (by kernel_rfl) rfl #[.slice Ao40 t410.length co40, .slice Ao41 t414.length co41] rfl (by (try simp only [List.map_toArray, List.map_cons, List.map_nil]); rfl) ?_; (with_reducible refine (dist_Far.calls kj25 _ _ t410 _ _ t414 t423 t424 t425 _ ?side1 ?side2 ?side3 ?side4 A33.out).mono ?_); (case side1 => refine (Kd.N_reads' (e := 64) (base := w.heap.size) (ok := fun k_ => ((some k_ ≠ (.slice Ao41 t414.length co41 : Value).ownBlock ∧ k_ ≠ gb408) ∧ k_ ≠ gb422)) (n := t410.length) (c := co40) ?_).2.2; exact (by (with_reducible repeat (first | apply Kd.N_alloc | apply Kd.N_drewN | apply Kd.N_drew)); exact (Kd.N_mono (Kd.N_far (p := ⟨gb422, 1, none⟩) (Kd.N_far (p := ⟨gb422, 0, none⟩) (Kd.N_mono HO_11.out (fun k_ hk => (⟨hk, hk.2⟩ : _ ∧ k_ ≠ gb422))) (fun _ hk => hk.2) (.int .i64 t419)) (fun _ hk => hk.2) (.int .i64 t420)) (fun _ h_ => h_.1)))); (case side2 => exact (Kd.N_reads' HO_11.out).2.1); (case side3 => refine (Kd.N_reads' (e := 64) (base := w.heap.size) (ok := fun k_ => ((some k_ ≠ (.slice Ao40 t410.length co40 : Value).ownBlock ∧ k_ ≠ gb408) ∧ k_ ≠ gb422)) (n := t414.length) (c := co41) ?_).2.2; exact (by (with_reducible repeat (first | apply Kd.N_alloc | apply Kd.N_drewN | apply Kd.N_drew)); exact (Kd.N_mono (Kd.N_far (p := ⟨gb422, 1, none⟩) (Kd.N_far (p := ⟨gb422, 0, none⟩) (Kd.N_mono HO_13.out (fun k_ hk => (⟨hk, hk.2⟩ : _ ∧ k_ ≠ gb422))) (fun _ hk => hk.2) (.int .i64 t419)) (fun _ hk => hk.2) (.int .i64 t420)) (fun _ h_ => h_.1)))); (case side4 => exact (Kd.N_reads' HO_13.out).2.1); rintro e w42 ⟨rfl, hb⟩; refine ⟨_, rfl, ?_⟩; replace HO_11 := Aside0.mk (Kd.N_below (by (with_reducible repeat (first | apply Kd.N_alloc | apply Kd.N_drewN | apply Kd.N_drew)); exact (Kd.N_mono (Kd.N_far (p := ⟨gb422, 1, none⟩) (Kd.N_far (p := ⟨gb422, 0, none⟩) (Kd.N_mono HO_11.out (fun k_ hk => (⟨hk, hk.2⟩ : _ ∧ k_ ≠ gb422))) (fun _ hk => hk.2) (.int .i64 t419)) (fun _ hk => hk.2) (.int .i64 t420)) (fun _ h_ => h_.1))) hb); replace HO_13 := Aside0.mk (Kd.N_below (by (with_reducible repeat (first | apply Kd.N_alloc | apply Kd.N_drewN | apply Kd.N_drew)); exact (Kd.N_mono (Kd.N_far (p := ⟨gb422, 1, none⟩) (Kd.N_far (p := ⟨gb422, 0, none⟩) (Kd.N_mono HO_13.out (fun k_ hk => (⟨hk, hk.2⟩ : _ ∧ k_ ≠ gb422))) (fun _ hk => hk.2) (.int .i64 t419)) (fun _ hk => hk.2) (.int .i64 t420)) (fun _ h_ => h_.1))) hb); replace BK408 := Aside0.mk (blk_below (g := gb408) (o := .cells #[.int .i64 a0_0, .int .i64 a0_1] 23 (0, 0)) (by (with_reducible repeat (first | refine blk_drewN ?_ _ | refine blk_drew ?_ | refine blk_alloc ?_ _)); refine blk_far ?_ NB408_422.out _; (with_reducible repeat (first | refine blk_drewN ?_ _ | refine blk_drew ?_ | refine blk_alloc ?_ _)); refine blk_far ?_ NB408_422.out _; (with_reducible repeat (first | refine blk_drewN ?_ _ | refine blk_drew ?_ | refine blk_alloc ?_ _)); exact BK408.out) hb); replace BK422 := Aside0.mk (blk_below (g := gb422) (o := .cells #[.int .i64 t419, .int .i64 t420] 23 (0, 0)) (by (with_reducible repeat (first | refine blk_drewN ?_ _ | refine blk_drew ?_ | refine blk_alloc ?_ _)); refine blk_put (cs := #[.int .i64 t419, .int .i64 0]) ?_ 1 _ rfl; (with_reducible repeat (first | refine blk_drewN ?_ _ | refine blk_drew ?_ | refine blk_alloc ?_ _)); refine blk_put (cs := #[.int .i64 0, .int .i64 0]) ?_ 0 _ rfl; (with_reducible repeat (first | refine blk_drewN ?_ _ | refine blk_drew ?_ | refine blk_alloc ?_ _)); exact BK422.out) hb); replace HB := Aside0.mk (below_step (by repeat (with_reducible first | exact HB.out | refine below_set ?_ GE422.out)) hb); (try clear hb)) | ((with_reducible refine gate_dst (N := 17) rfl ?_); refine box_event ?hg (N := 17) ?hd (cs := #[.int .i64 0, .int .i64 0]) (t := 23) ?hr ?_; (case hd | hg => rfl); (case hr => go_simp; done); intro gb426 hg w43 hbox hb; replace HO_11 := Aside0.mk (Kd.N_below (Kd.N_elderB (by (with_reducible repeat (first | apply Kd.N_alloc | apply Kd.N_drewN | apply Kd.N_drew)); exact HO_11.out) gb426 (Nat.le_of_eq hg.symm)) hb); replace HO_13 := Aside0.mk (Kd.N_below (Kd.N_elderB (by (with_reducible repeat (first | apply Kd.N_alloc | apply Kd.N_drewN | apply Kd.N_drew)); exact HO_13.out) gb426 (Nat.le_of_eq hg.symm)) hb); have BK426 := Aside0.mk (hbox); have GW426 := gw_ HB.out hg; have GE426 := gw_ HB.out hg; replace HB := Aside0.mk (below_step HB.out hb); have NB408_426 := Aside0.mk ((by rw [hg]; exact Nat.ne_of_lt (blk_lt (g := gb408) (o := .cells #[.int .i64 a0_0, .int .i64 a0_1] 23 (0, 0)) (by (with_reducible repeat (first | refine blk_drewN ?_ _ | refine blk_drew ?_ | refine blk_alloc ?_ _)); exact BK408.out)) : gb408 ≠ gb426)); have NB426_408 := Aside0.mk ((by rw [hg]; exact Nat.ne_of_gt (blk_lt (g := gb408) (o := .cells #[.int .i64 a0_0, .int .i64 a0_1] 23 (0, 0)) (by (with_reducible repeat (first | refine blk_drewN ?_ _ | refine blk_drew ?_ | refine blk_alloc ?_ _)); exact BK408.out)) : gb426 ≠ gb408)); replace BK408 := Aside0.mk (blk_below (g := gb408) (o := .cells #[.int .i64 a0_0, .int .i64 a0_1] 23 (0, 0)) (by (with_reducible repeat (first | refine blk_drewN ?_ _ | refine blk_drew ?_ | refine blk_alloc ?_ _)); exact BK408.out) hb); have NB422_426 := Aside0.mk ((by rw [hg]; exact Nat.ne_of_lt (blk_lt (g := gb422) (o := .cells #[.int .i64 t419, .int .i64 t420] 23 (0, 0)) (by (with_reducible repeat (first | refine blk_drewN ?_ _ | refine blk_drew ?_ | refine blk_alloc ?_ _)); exact BK422.out)) : gb422 ≠ gb426)); have NB426_422 := Aside0.mk ((by rw [hg]; exact Nat.ne_of_gt (blk_lt (g := gb422) (o := .cells #[.int .i64 t419, .int .i64 t420] 23 (0, 0)) (by (with_reducible repeat (first | refine blk_drewN ?_ _ | refine blk_drew ?_ | refine blk_alloc ?_ _)); exact BK422.out)) : gb426 ≠ gb422)); replace BK422 := Aside0.mk (blk_below (g := gb422) (o := .cells #[.int .i64 t419, .int .i64 t420] 23 (0, 0)) (by (with_reducible repeat (first | refine blk_drewN ?_ _ | refine blk_drew ?_ | refine blk_alloc ?_ _)); exact BK422.out) hb); clear hb hbox hg; have hnb44 := NB426_408.out; have hnc44 := NB408_426.out; have hnb45 := NB426_422.out; have hnc45 := NB422_426.out; have hcz46_0 := cz0_ BK426; have hcz46_1 := cz1_ BK426; have hfz46_0 := blk_frozen BK426.out 0; have hfz46_1 := blk_frozen BK426.out 1; have hcz47_0 := cz0_ BK422; have hcz47_1 := cz1_ BK422; have hfz47_0 := blk_frozen BK422.out 0; have hfz47_1 := blk_frozen BK422.out 1))
            go_ret
            exact ⟨rfl, by repeat (with_reducible first | exact HB.out | refine below_set ?_ GE426.out)⟩
           ·
            rw [if_neg c34] at H
            have c34b0 : (t421 == t425) = false := beq_eq_false_iff_ne.mpr c34
            have c34b1 : (t421 != t425) = true := bne_iff_ne.mpr c34
            obtain rfl := Option.some.inj H
            have hcz48_0 := cz0_ BK408
            have hcz48_1 := cz1_ BK408
            have hfz48_0 := blk_frozen BK408.out 0
            have hfz48_1 := blk_frozen BK408.out 1
            go_wp2_with (first | ((with_reducible refine gate_callee (f := 11) rfl ?_); refine goesL_ (some 81) rfl rfl Try.func11 (by kernel_rfl) rfl #[.agg #[.int .i64 a0_0, .int .i64 a0_1], .int .i64 (wrap64 (-(wrap64 (a3 - a4))))] rfl (by (try simp only [List.map_toArray, List.map_cons, List.map_nil]); rfl) ?_; (with_reducible refine (hushref1_Power.calls kj25 a0_0 a0_1 (wrap64 (-(wrap64 (a3 - a4)))) t419 t420 t421 _ A32.out).mono ?_); rintro e w49 ⟨rfl, hb⟩; refine ⟨_, rfl, ?_⟩; replace HO_11 := Aside0.mk (Kd.N_below (by (with_reducible repeat (first | apply Kd.N_alloc | apply Kd.N_drewN | apply Kd.N_drew)); exact HO_11.out) hb); replace HO_13 := Aside0.mk (Kd.N_below (by (with_reducible repeat (first | apply Kd.N_alloc | apply Kd.N_drewN | apply Kd.N_drew)); exact HO_13.out) hb); replace BK408 := Aside0.mk (blk_below (g := gb408) (o := .cells #[.int .i64 a0_0, .int .i64 a0_1] 23 (0, 0)) (by (with_reducible repeat (first | refine blk_drewN ?_ _ | refine blk_drew ?_ | refine blk_alloc ?_ _)); exact BK408.out) hb); replace HB := Aside0.mk (below_step HB.out hb); (try clear hb)) | ((with_reducible refine gate_dst (N := 15) rfl ?_); refine box_event ?hg (N := 15) ?hd (cs := #[.int .i64 0, .int .i64 0]) (t := 23) ?hr ?_; (case hd | hg => rfl); (case hr => go_simp; done); intro gb422 hg w50 hbox hb; replace HO_11 := Aside0.mk (Kd.N_below (Kd.N_elderB (by (with_reducible repeat (first | apply Kd.N_alloc | apply Kd.N_drewN | apply Kd.N_drew)); exact HO_11.out) gb422 (Nat.le_of_eq hg.symm)) hb); replace HO_13 := Aside0.mk (Kd.N_below (Kd.N_elderB (by (with_reducible repeat (first | apply Kd.N_alloc | apply Kd.N_drewN | apply Kd.N_drew)); exact HO_13.out) gb422 (Nat.le_of_eq hg.symm)) hb); have BK422 := Aside0.mk (hbox); have GW422 := gw_ HB.out hg; have GE422 := gw_ HB.out hg; replace HB := Aside0.mk (below_step HB.out hb); have NB408_422 := Aside0.mk ((by rw [hg]; exact Nat.ne_of_lt (blk_lt (g := gb408) (o := .cells #[.int .i64 a0_0, .int .i64 a0_1] 23 (0, 0)) (by (with_reducible repeat (first | refine blk_drewN ?_ _ | refine blk_drew ?_ | refine blk_alloc ?_ _)); exact BK408.out)) : gb408 ≠ gb422)); have NB422_408 := Aside0.mk ((by rw [hg]; exact Nat.ne_of_gt (blk_lt (g := gb408) (o := .cells #[.int .i64 a0_0, .int .i64 a0_1] 23 (0, 0)) (by (with_reducible repeat (first | refine blk_drewN ?_ _ | refine blk_drew ?_ | refine blk_alloc ?_ _)); exact BK408.out)) : gb422 ≠ gb408)); replace BK408 := Aside0.mk (blk_below (g := gb408) (o := .cells #[.int .i64 a0_0, .int .i64 a0_1] 23 (0, 0)) (by (with_reducible repeat (first | refine blk_drewN ?_ _ | refine blk_drew ?_ | refine blk_alloc ?_ _)); exact BK408.out) hb); clear hb hbox hg; have hnb51 := NB422_408.out; have hnc51 := NB408_422.out; have hcz52_0 := cz0_ BK422; have hcz52_1 := cz1_ BK422; have hfz52_0 := blk_frozen BK422.out 0; have hfz52_1 := blk_frozen BK422.out 1; obtain ⟨Ao53, co53, eo53⟩ := Kd.N_slice HO_11.out; subst eo53; obtain ⟨Ao54, co54, eo54⟩ := Kd.N_slice HO_13.out; subst eo54) | ((with_reducible refine gate_callee (f := 12) rfl ?_); refine goesL_ (some 87) rfl rfl Try.func12 (by kernel_rfl) rfl #[.slice Ao53 t410.length co53, .slice Ao54 t414.length co54] rfl (by (try simp only [List.map_toArray, List.map_cons, List.map_nil]); rfl) ?_; (with_reducible refine (dist_Far.calls kj25 _ _ t410 _ _ t414 t423 t424 t425 _ ?side1 ?side2 ?side3 ?side4 A33.out).mono ?_); (case side1 => refine (Kd.N_reads' (e := 64) (base := w.heap.size) (ok := fun k_ => ((some k_ ≠ (.slice Ao54 t414.length co54 : Value).ownBlock ∧ k_ ≠ gb408) ∧ k_ ≠ gb422)) (n := t410.length) (c := co53) ?_).2.2; exact (by (with_reducible repeat (first | apply Kd.N_alloc | apply Kd.N_drewN | apply Kd.N_drew)); exact (Kd.N_mono (Kd.N_far (p := ⟨gb422, 1, none⟩) (Kd.N_far (p := ⟨gb422, 0, none⟩) (Kd.N_mono HO_11.out (fun k_ hk => (⟨hk, hk.2⟩ : _ ∧ k_ ≠ gb422))) (fun _ hk => hk.2) (.int .i64 t419)) (fun _ hk => hk.2) (.int .i64 t420)) (fun _ h_ => h_.1)))); (case side2 => exact (Kd.N_reads' HO_11.out).2.1); (case side3 => refine (Kd.N_reads' (e := 64) (base := w.heap.size) (ok := fun k_ => ((some k_ ≠ (.slice Ao53 t410.length co53 : Value).ownBlock ∧ k_ ≠ gb408) ∧ k_ ≠ gb422)) (n := t414.length) (c := co54) ?_).2.2; exact (by (with_reducible repeat (first | apply Kd.N_alloc | apply Kd.N_drewN | apply Kd.N_drew)); exact (Kd.N_mono (Kd.N_far (p := ⟨gb422, 1, none⟩) (Kd.N_far (p := ⟨gb422, 0, none⟩) (Kd.N_mono HO_13.out (fun k_ hk => (⟨hk, hk.2⟩ : _ ∧ k_ ≠ gb422))) (fun _ hk => hk.2) (.int .i64 t419)) (fun _ hk => hk.2) (.int .i64 t420)) (fun _ h_ => h_.1)))); (case side4 => exact (Kd.N_reads' HO_13.out).2.1); rintro e w55 ⟨rfl, hb⟩; refine ⟨_, rfl, ?_⟩; replace HO_11 := Aside0.mk (Kd.N_below (by (with_reducible repeat (first | apply Kd.N_alloc | apply Kd.N_drewN | apply Kd.N_drew)); exact (Kd.N_mono (Kd.N_far (p := ⟨gb422, 1, none⟩) (Kd.N_far (p := ⟨gb422, 0, none⟩) (Kd.N_mono HO_11.out (fun k_ hk => (⟨hk, hk.2⟩ : _ ∧ k_ ≠ gb422))) (fun _ hk => hk.2) (.int .i64 t419)) (fun _ hk => hk.2) (.int .i64 t420)) (fun _ h_ => h_.1))) hb); replace HO_13 := Aside0.mk (Kd.N_below (by (with_reducible repeat (first | apply Kd.N_alloc | apply Kd.N_drewN | apply Kd.N_drew)); exact (Kd.N_mono (Kd.N_far (p := ⟨gb422, 1, none⟩) (Kd.N_far (p := ⟨gb422, 0, none⟩) (Kd.N_mono HO_13.out (fun k_ hk => (⟨hk, hk.2⟩ : _ ∧ k_ ≠ gb422))) (fun _ hk => hk.2) (.int .i64 t419)) (fun _ hk => hk.2) (.int .i64 t420)) (fun _ h_ => h_.1))) hb); replace BK408 := Aside0.mk (blk_below (g := gb408) (o := .cells #[.int .i64 a0_0, .int .i64 a0_1] 23 (0, 0)) (by (with_reducible repeat (first | refine blk_drewN ?_ _ | refine blk_drew ?_ | refine blk_alloc ?_ _)); refine blk_far ?_ NB408_422.out _; (with_reducible repeat (first | refine blk_drewN ?_ _ | refine blk_drew ?_ | refine blk_alloc ?_ _)); refine blk_far ?_ NB408_422.out _; (with_reducible repeat (first | refine blk_drewN ?_ _ | refine blk_drew ?_ | refine blk_alloc ?_ _)); exact BK408.out) hb); replace BK422 := Aside0.mk (blk_below (g := gb422) (o := .cells #[.int .i64 t419, .int .i64 t420] 23 (0, 0)) (by (with_reducible repeat (first | refine blk_drewN ?_ _ | refine blk_drew ?_ | refine blk_alloc ?_ _)); refine blk_put (cs := #[.int .i64 t419, .int .i64 0]) ?_ 1 _ rfl; (with_reducible repeat (first | refine blk_drewN ?_ _ | refine blk_drew ?_ | refine blk_alloc ?_ _)); refine blk_put (cs := #[.int .i64 0, .int .i64 0]) ?_ 0 _ rfl; (with_reducible repeat (first | refine blk_drewN ?_ _ | refine blk_drew ?_ | refine blk_alloc ?_ _)); exact BK422.out) hb); replace HB := Aside0.mk (below_step (by repeat (with_reducible first | exact HB.out | refine below_set ?_ GE422.out)) hb); (try clear hb)) | ((with_reducible refine gate_dst (N := 17) rfl ?_); refine box_event ?hg (N := 17) ?hd (cs := #[.int .i64 0, .int .i64 0]) (t := 23) ?hr ?_; (case hd | hg => rfl); (case hr => go_simp; done); intro gb426 hg w56 hbox hb; replace HO_11 := Aside0.mk (Kd.N_below (Kd.N_elderB (by (with_reducible repeat (first | apply Kd.N_alloc | apply Kd.N_drewN | apply Kd.N_drew)); exact HO_11.out) gb426 (Nat.le_of_eq hg.symm)) hb); replace HO_13 := Aside0.mk (Kd.N_below (Kd.N_elderB (by (with_reducible repeat (first | apply Kd.N_alloc | apply Kd.N_drewN | apply Kd.N_drew)); exact HO_13.out) gb426 (Nat.le_of_eq hg.symm)) hb); have BK426 := Aside0.mk (hbox); have GW426 := gw_ HB.out hg; have GE426 := gw_ HB.out hg; replace HB := Aside0.mk (below_step HB.out hb); have NB408_426 := Aside0.mk ((by rw [hg]; exact Nat.ne_of_lt (blk_lt (g := gb408) (o := .cells #[.int .i64 a0_0, .int .i64 a0_1] 23 (0, 0)) (by (with_reducible repeat (first | refine blk_drewN ?_ _ | refine blk_drew ?_ | refine blk_alloc ?_ _)); exact BK408.out)) : gb408 ≠ gb426)); have NB426_408 := Aside0.mk ((by rw [hg]; exact Nat.ne_of_gt (blk_lt (g := gb408) (o := .cells #[.int .i64 a0_0, .int .i64 a0_1] 23 (0, 0)) (by (with_reducible repeat (first | refine blk_drewN ?_ _ | refine blk_drew ?_ | refine blk_alloc ?_ _)); exact BK408.out)) : gb426 ≠ gb408)); replace BK408 := Aside0.mk (blk_below (g := gb408) (o := .cells #[.int .i64 a0_0, .int .i64 a0_1] 23 (0, 0)) (by (with_reducible repeat (first | refine blk_drewN ?_ _ | refine blk_drew ?_ | refine blk_alloc ?_ _)); exact BK408.out) hb); have NB422_426 := Aside0.mk ((by rw [hg]; exact Nat.ne_of_lt (blk_lt (g := gb422) (o := .cells #[.int .i64 t419, .int .i64 t420] 23 (0, 0)) (by (with_reducible repeat (first | refine blk_drewN ?_ _ | refine blk_drew ?_ | refine blk_alloc ?_ _)); exact BK422.out)) : gb422 ≠ gb426)); have NB426_422 := Aside0.mk ((by rw [hg]; exact Nat.ne_of_gt (blk_lt (g := gb422) (o := .cells #[.int .i64 t419, .int .i64 t420] 23 (0, 0)) (by (with_reducible repeat (first | refine blk_drewN ?_ _ | refine blk_drew ?_ | refine blk_alloc ?_ _)); exact BK422.out)) : gb426 ≠ gb422)); replace BK422 := Aside0.mk (blk_below (g := gb422) (o := .cells #[.int .i64 t419, .int .i64 t420] 23 (0, 0)) (by (with_reducible repeat (first | refine blk_drewN ?_ _ | refine blk_drew ?_ | refine blk_alloc ?_ _)); exact BK422.out) hb); clear hb hbox hg; have hnb57 := NB426_408.out; have hnc57 := NB408_426.out; have hnb58 := NB426_422.out; have hnc58 := NB422_426.out; have hcz59_0 := cz0_ BK426; have hcz59_1 := cz1_ BK426; have hfz59_0 := blk_frozen BK426.out 0; have hfz59_1 := blk_frozen BK426.out 1))
            go_ret
            exact ⟨rfl, by repeat (with_reducible first | exact HB.out | refine below_set ?_ GE426.out)⟩
          ·
           rw [if_neg c31] at H
           have c31b0 : decide ((wrap64 (a3 - a4)) < 0) = false := decide_eq_false c31
           clear c31
           obtain ⟨⟨t427, t428, t429⟩, A60, H⟩ := bnd_ H
           dsimp only at H
           obtain ⟨⟨t431, t432, t433⟩, A61, H⟩ := bnd_ H
           dsimp only at H
           by_cases c62 : t429 = t433
           ·
            rw [if_pos c62] at H
            have c62b0 : (t429 == t433) = true := beq_iff_eq.mpr c62
            have c62b1 : (t429 != t433) = false := bne_eq_false_iff_eq.mpr c62
            clear c62
            obtain rfl := Option.some.inj H
            have hcz63_0 := cz0_ BK408
            have hcz63_1 := cz1_ BK408
            have hfz63_0 := blk_frozen BK408.out 0
            have hfz63_1 := blk_frozen BK408.out 1
            go_wp2_with (first | ((with_reducible refine gate_callee (f := 11) rfl ?_); refine goesL_ (some 81) rfl rfl Try.func11 (by kernel_rfl) rfl #[.agg #[.int .i64 a0_0, .int .i64 a0_1], .int .i64 (wrap64 (a3 - a4))] rfl (by (try simp only [List.map_toArray, List.map_cons, List.map_nil]); rfl) ?_; (with_reducible refine (hushref1_Power.calls kj25 a0_0 a0_1 (wrap64 (a3 - a4)) t427 t428 t429 _ A60.out).mono ?_); rintro e w64 ⟨rfl, hb⟩; refine ⟨_, rfl, ?_⟩; replace HO_11 := Aside0.mk (Kd.N_below (by (with_reducible repeat (first | apply Kd.N_alloc | apply Kd.N_drewN | apply Kd.N_drew)); exact HO_11.out) hb); replace HO_13 := Aside0.mk (Kd.N_below (by (with_reducible repeat (first | apply Kd.N_alloc | apply Kd.N_drewN | apply Kd.N_drew)); exact HO_13.out) hb); replace BK408 := Aside0.mk (blk_below (g := gb408) (o := .cells #[.int .i64 a0_0, .int .i64 a0_1] 23 (0, 0)) (by (with_reducible repeat (first | refine blk_drewN ?_ _ | refine blk_drew ?_ | refine blk_alloc ?_ _)); exact BK408.out) hb); replace HB := Aside0.mk (below_step HB.out hb); (try clear hb)) | ((with_reducible refine gate_dst (N := 15) rfl ?_); refine box_event ?hg (N := 15) ?hd (cs := #[.int .i64 0, .int .i64 0]) (t := 23) ?hr ?_; (case hd | hg => rfl); (case hr => go_simp; done); intro gb430 hg w65 hbox hb; replace HO_11 := Aside0.mk (Kd.N_below (Kd.N_elderB (by (with_reducible repeat (first | apply Kd.N_alloc | apply Kd.N_drewN | apply Kd.N_drew)); exact HO_11.out) gb430 (Nat.le_of_eq hg.symm)) hb); replace HO_13 := Aside0.mk (Kd.N_below (Kd.N_elderB (by (with_reducible repeat (first | apply Kd.N_alloc | apply Kd.N_drewN | apply Kd.N_drew)); exact HO_13.out) gb430 (Nat.le_of_eq hg.symm)) hb); have BK430 := Aside0.mk (hbox); have GW430 := gw_ HB.out hg; have GE430 := gw_ HB.out hg; replace HB := Aside0.mk (below_step HB.out hb); have NB408_430 := Aside0.mk ((by rw [hg]; exact Nat.ne_of_lt (blk_lt (g := gb408) (o := .cells #[.int .i64 a0_0, .int .i64 a0_1] 23 (0, 0)) (by (with_reducible repeat (first | refine blk_drewN ?_ _ | refine blk_drew ?_ | refine blk_alloc ?_ _)); exact BK408.out)) : gb408 ≠ gb430)); have NB430_408 := Aside0.mk ((by rw [hg]; exact Nat.ne_of_gt (blk_lt (g := gb408) (o := .cells #[.int .i64 a0_0, .int .i64 a0_1] 23 (0, 0)) (by (with_reducible repeat (first | refine blk_drewN ?_ _ | refine blk_drew ?_ | refine blk_alloc ?_ _)); exact BK408.out)) : gb430 ≠ gb408)); replace BK408 := Aside0.mk (blk_below (g := gb408) (o := .cells #[.int .i64 a0_0, .int .i64 a0_1] 23 (0, 0)) (by (with_reducible repeat (first | refine blk_drewN ?_ _ | refine blk_drew ?_ | refine blk_alloc ?_ _)); exact BK408.out) hb); clear hb hbox hg; have hnb66 := NB430_408.out; have hnc66 := NB408_430.out; have hcz67_0 := cz0_ BK430; have hcz67_1 := cz1_ BK430; have hfz67_0 := blk_frozen BK430.out 0; have hfz67_1 := blk_frozen BK430.out 1; obtain ⟨Ao68, co68, eo68⟩ := Kd.N_slice HO_11.out; subst eo68; obtain ⟨Ao69, co69, eo69⟩ := Kd.N_slice HO_13.out; subst eo69) | ((with_reducible refine gate_callee (f := 12) rfl ?_); refine goesL_ (some 87) rfl rfl Try.func12 (by kernel_rfl) rfl #[.slice Ao68 t410.length co68, .slice Ao69 t414.length co69] rfl (by (try simp only [List.map_toArray, List.map_cons, List.map_nil]); rfl) ?_; (with_reducible refine (dist_Far.calls kj25 _ _ t410 _ _ t414 t431 t432 t433 _ ?side1 ?side2 ?side3 ?side4 A61.out).mono ?_); (case side1 => refine (Kd.N_reads' (e := 64) (base := w.heap.size) (ok := fun k_ => ((some k_ ≠ (.slice Ao69 t414.length co69 : Value).ownBlock ∧ k_ ≠ gb408) ∧ k_ ≠ gb430)) (n := t410.length) (c := co68) ?_).2.2; exact (by (with_reducible repeat (first | apply Kd.N_alloc | apply Kd.N_drewN | apply Kd.N_drew)); exact (Kd.N_mono (Kd.N_far (p := ⟨gb430, 1, none⟩) (Kd.N_far (p := ⟨gb430, 0, none⟩) (Kd.N_mono HO_11.out (fun k_ hk => (⟨hk, hk.2⟩ : _ ∧ k_ ≠ gb430))) (fun _ hk => hk.2) (.int .i64 t427)) (fun _ hk => hk.2) (.int .i64 t428)) (fun _ h_ => h_.1)))); (case side2 => exact (Kd.N_reads' HO_11.out).2.1); (case side3 => refine (Kd.N_reads' (e := 64) (base := w.heap.size) (ok := fun k_ => ((some k_ ≠ (.slice Ao68 t410.length co68 : Value).ownBlock ∧ k_ ≠ gb408) ∧ k_ ≠ gb430)) (n := t414.length) (c := co69) ?_).2.2; exact (by (with_reducible repeat (first | apply Kd.N_alloc | apply Kd.N_drewN | apply Kd.N_drew)); exact (Kd.N_mono (Kd.N_far (p := ⟨gb430, 1, none⟩) (Kd.N_far (p := ⟨gb430, 0, none⟩) (Kd.N_mono HO_13.out (fun k_ hk => (⟨hk, hk.2⟩ : _ ∧ k_ ≠ gb430))) (fun _ hk => hk.2) (.int .i64 t427)) (fun _ hk => hk.2) (.int .i64 t428)) (fun _ h_ => h_.1)))); (case side4 => exact (Kd.N_reads' HO_13.out).2.1); rintro e w70 ⟨rfl, hb⟩; refine ⟨_, rfl, ?_⟩; replace HO_11 := Aside0.mk (Kd.N_below (by (with_reducible repeat (first | apply Kd.N_alloc | apply Kd.N_drewN | apply Kd.N_drew)); exact (Kd.N_mono (Kd.N_far (p := ⟨gb430, 1, none⟩) (Kd.N_far (p := ⟨gb430, 0, none⟩) (Kd.N_mono HO_11.out (fun k_ hk => (⟨hk, hk.2⟩ : _ ∧ k_ ≠ gb430))) (fun _ hk => hk.2) (.int .i64 t427)) (fun _ hk => hk.2) (.int .i64 t428)) (fun _ h_ => h_.1))) hb); replace HO_13 := Aside0.mk (Kd.N_below (by (with_reducible repeat (first | apply Kd.N_alloc | apply Kd.N_drewN | apply Kd.N_drew)); exact (Kd.N_mono (Kd.N_far (p := ⟨gb430, 1, none⟩) (Kd.N_far (p := ⟨gb430, 0, none⟩) (Kd.N_mono HO_13.out (fun k_ hk => (⟨hk, hk.2⟩ : _ ∧ k_ ≠ gb430))) (fun _ hk => hk.2) (.int .i64 t427)) (fun _ hk => hk.2) (.int .i64 t428)) (fun _ h_ => h_.1))) hb); replace BK408 := Aside0.mk (blk_below (g := gb408) (o := .cells #[.int .i64 a0_0, .int .i64 a0_1] 23 (0, 0)) (by (with_reducible repeat (first | refine blk_drewN ?_ _ | refine blk_drew ?_ | refine blk_alloc ?_ _)); refine blk_far ?_ NB408_430.out _; (with_reducible repeat (first | refine blk_drewN ?_ _ | refine blk_drew ?_ | refine blk_alloc ?_ _)); refine blk_far ?_ NB408_430.out _; (with_reducible repeat (first | refine blk_drewN ?_ _ | refine blk_drew ?_ | refine blk_alloc ?_ _)); exact BK408.out) hb); replace BK430 := Aside0.mk (blk_below (g := gb430) (o := .cells #[.int .i64 t427, .int .i64 t428] 23 (0, 0)) (by (with_reducible repeat (first | refine blk_drewN ?_ _ | refine blk_drew ?_ | refine blk_alloc ?_ _)); refine blk_put (cs := #[.int .i64 t427, .int .i64 0]) ?_ 1 _ rfl; (with_reducible repeat (first | refine blk_drewN ?_ _ | refine blk_drew ?_ | refine blk_alloc ?_ _)); refine blk_put (cs := #[.int .i64 0, .int .i64 0]) ?_ 0 _ rfl; (with_reducible repeat (first | refine blk_drewN ?_ _ | refine blk_drew ?_ | refine blk_alloc ?_ _)); exact BK430.out) hb); replace HB := Aside0.mk (below_step (by repeat (with_reducible first | exact HB.out | refine below_set ?_ GE430.out)) hb); (try clear hb)) | ((with_reducible refine gate_dst (N := 17) rfl ?_); refine box_event ?hg (N := 17) ?hd (cs := #[.int .i64 0, .int .i64 0]) (t := 23) ?hr ?_; (case hd | hg => rfl); (case hr => go_simp; done); intro gb434 hg w71 hbox hb; replace HO_11 := Aside0.mk (Kd.N_below (Kd.N_elderB (by (with_reducible repeat (first | apply Kd.N_alloc | apply Kd.N_drewN | apply Kd.N_drew)); exact HO_11.out) gb434 (Nat.le_of_eq hg.symm)) hb); replace HO_13 := Aside0.mk (Kd.N_below (Kd.N_elderB (by (with_reducible repeat (first | apply Kd.N_alloc | apply Kd.N_drewN | apply Kd.N_drew)); exact HO_13.out) gb434 (Nat.le_of_eq hg.symm)) hb); have BK434 := Aside0.mk (hbox); have GW434 := gw_ HB.out hg; have GE434 := gw_ HB.out hg; replace HB := Aside0.mk (below_step HB.out hb); have NB408_434 := Aside0.mk ((by rw [hg]; exact Nat.ne_of_lt (blk_lt (g := gb408) (o := .cells #[.int .i64 a0_0, .int .i64 a0_1] 23 (0, 0)) (by (with_reducible repeat (first | refine blk_drewN ?_ _ | refine blk_drew ?_ | refine blk_alloc ?_ _)); exact BK408.out)) : gb408 ≠ gb434)); have NB434_408 := Aside0.mk ((by rw [hg]; exact Nat.ne_of_gt (blk_lt (g := gb408) (o := .cells #[.int .i64 a0_0, .int .i64 a0_1] 23 (0, 0)) (by (with_reducible repeat (first | refine blk_drewN ?_ _ | refine blk_drew ?_ | refine blk_alloc ?_ _)); exact BK408.out)) : gb434 ≠ gb408)); replace BK408 := Aside0.mk (blk_below (g := gb408) (o := .cells #[.int .i64 a0_0, .int .i64 a0_1] 23 (0, 0)) (by (with_reducible repeat (first | refine blk_drewN ?_ _ | refine blk_drew ?_ | refine blk_alloc ?_ _)); exact BK408.out) hb); have NB430_434 := Aside0.mk ((by rw [hg]; exact Nat.ne_of_lt (blk_lt (g := gb430) (o := .cells #[.int .i64 t427, .int .i64 t428] 23 (0, 0)) (by (with_reducible repeat (first | refine blk_drewN ?_ _ | refine blk_drew ?_ | refine blk_alloc ?_ _)); exact BK430.out)) : gb430 ≠ gb434)); have NB434_430 := Aside0.mk ((by rw [hg]; exact Nat.ne_of_gt (blk_lt (g := gb430) (o := .cells #[.int .i64 t427, .int .i64 t428] 23 (0, 0)) (by (with_reducible repeat (first | refine blk_drewN ?_ _ | refine blk_drew ?_ | refine blk_alloc ?_ _)); exact BK430.out)) : gb434 ≠ gb430)); replace BK430 := Aside0.mk (blk_below (g := gb430) (o := .cells #[.int .i64 t427, .int .i64 t428] 23 (0, 0)) (by (with_reducible repeat (first | refine blk_drewN ?_ _ | refine blk_drew ?_ | refine blk_alloc ?_ _)); exact BK430.out) hb); clear hb hbox hg; have hnb72 := NB434_408.out; have hnc72 := NB408_434.out; have hnb73 := NB434_430.out; have hnc73 := NB430_434.out; have hcz74_0 := cz0_ BK434; have hcz74_1 := cz1_ BK434; have hfz74_0 := blk_frozen BK434.out 0; have hfz74_1 := blk_frozen BK434.out 1; have hcz75_0 := cz0_ BK430; have hcz75_1 := cz1_ BK430; have hfz75_0 := blk_frozen BK430.out 0; have hfz75_1 := blk_frozen BK430.out 1))
            go_ret
            exact ⟨rfl, by repeat (with_reducible first | exact HB.out | refine below_set ?_ GE434.out)⟩
           ·
            rw [if_neg c62] at H
            have c62b0 : (t429 == t433) = false := beq_eq_false_iff_ne.mpr c62
            have c62b1 : (t429 != t433) = true := bne_iff_ne.mpr c62
            obtain rfl := Option.some.inj H
            have hcz76_0 := cz0_ BK408
            have hcz76_1 := cz1_ BK408
            have hfz76_0 := blk_frozen BK408.out 0
            have hfz76_1 := blk_frozen BK408.out 1
            go_wp2_with (first | ((with_reducible refine gate_callee (f := 11) rfl ?_); refine goesL_ (some 81) rfl rfl Try.func11 (by kernel_rfl) rfl #[.agg #[.int .i64 a0_0, .int .i64 a0_1], .int .i64 (wrap64 (a3 - a4))] rfl (by (try simp only [List.map_toArray, List.map_cons, List.map_nil]); rfl) ?_; (with_reducible refine (hushref1_Power.calls kj25 a0_0 a0_1 (wrap64 (a3 - a4)) t427 t428 t429 _ A60.out).mono ?_); rintro e w77 ⟨rfl, hb⟩; refine ⟨_, rfl, ?_⟩; replace HO_11 := Aside0.mk (Kd.N_below (by (with_reducible repeat (first | apply Kd.N_alloc | apply Kd.N_drewN | apply Kd.N_drew)); exact HO_11.out) hb); replace HO_13 := Aside0.mk (Kd.N_below (by (with_reducible repeat (first | apply Kd.N_alloc | apply Kd.N_drewN | apply Kd.N_drew)); exact HO_13.out) hb); replace BK408 := Aside0.mk (blk_below (g := gb408) (o := .cells #[.int .i64 a0_0, .int .i64 a0_1] 23 (0, 0)) (by (with_reducible repeat (first | refine blk_drewN ?_ _ | refine blk_drew ?_ | refine blk_alloc ?_ _)); exact BK408.out) hb); replace HB := Aside0.mk (below_step HB.out hb); (try clear hb)) | ((with_reducible refine gate_dst (N := 15) rfl ?_); refine box_event ?hg (N := 15) ?hd (cs := #[.int .i64 0, .int .i64 0]) (t := 23) ?hr ?_; (case hd | hg => rfl); (case hr => go_simp; done); intro gb430 hg w78 hbox hb; replace HO_11 := Aside0.mk (Kd.N_below (Kd.N_elderB (by (with_reducible repeat (first | apply Kd.N_alloc | apply Kd.N_drewN | apply Kd.N_drew)); exact HO_11.out) gb430 (Nat.le_of_eq hg.symm)) hb); replace HO_13 := Aside0.mk (Kd.N_below (Kd.N_elderB (by (with_reducible repeat (first | apply Kd.N_alloc | apply Kd.N_drewN | apply Kd.N_drew)); exact HO_13.out) gb430 (Nat.le_of_eq hg.symm)) hb); have BK430 := Aside0.mk (hbox); have GW430 := gw_ HB.out hg; have GE430 := gw_ HB.out hg; replace HB := Aside0.mk (below_step HB.out hb); have NB408_430 := Aside0.mk ((by rw [hg]; exact Nat.ne_of_lt (blk_lt (g := gb408) (o := .cells #[.int .i64 a0_0, .int .i64 a0_1] 23 (0, 0)) (by (with_reducible repeat (first | refine blk_drewN ?_ _ | refine blk_drew ?_ | refine blk_alloc ?_ _)); exact BK408.out)) : gb408 ≠ gb430)); have NB430_408 := Aside0.mk ((by rw [hg]; exact Nat.ne_of_gt (blk_lt (g := gb408) (o := .cells #[.int .i64 a0_0, .int .i64 a0_1] 23 (0, 0)) (by (with_reducible repeat (first | refine blk_drewN ?_ _ | refine blk_drew ?_ | refine blk_alloc ?_ _)); exact BK408.out)) : gb430 ≠ gb408)); replace BK408 := Aside0.mk (blk_below (g := gb408) (o := .cells #[.int .i64 a0_0, .int .i64 a0_1] 23 (0, 0)) (by (with_reducible repeat (first | refine blk_drewN ?_ _ | refine blk_drew ?_ | refine blk_alloc ?_ _)); exact BK408.out) hb); clear hb hbox hg; have hnb79 := NB430_408.out; have hnc79 := NB408_430.out; have hcz80_0 := cz0_ BK430; have hcz80_1 := cz1_ BK430; have hfz80_0 := blk_frozen BK430.out 0; have hfz80_1 := blk_frozen BK430.out 1; obtain ⟨Ao81, co81, eo81⟩ := Kd.N_slice HO_11.out; subst eo81; obtain ⟨Ao82, co82, eo82⟩ := Kd.N_slice HO_13.out; subst eo82) | ((with_reducible refine gate_callee (f := 12) rfl ?_); refine goesL_ (some 87) rfl rfl Try.func12 (by kernel_rfl) rfl #[.slice Ao81 t410.length co81, .slice Ao82 t414.length co82] rfl (by (try simp only [List.map_toArray, List.map_cons, List.map_nil]); rfl) ?_; (with_reducible refine (dist_Far.calls kj25 _ _ t410 _ _ t414 t431 t432 t433 _ ?side1 ?side2 ?side3 ?side4 A61.out).mono ?_); (case side1 => refine (Kd.N_reads' (e := 64) (base := w.heap.size) (ok := fun k_ => ((some k_ ≠ (.slice Ao82 t414.length co82 : Value).ownBlock ∧ k_ ≠ gb408) ∧ k_ ≠ gb430)) (n := t410.length) (c := co81) ?_).2.2; exact (by (with_reducible repeat (first | apply Kd.N_alloc | apply Kd.N_drewN | apply Kd.N_drew)); exact (Kd.N_mono (Kd.N_far (p := ⟨gb430, 1, none⟩) (Kd.N_far (p := ⟨gb430, 0, none⟩) (Kd.N_mono HO_11.out (fun k_ hk => (⟨hk, hk.2⟩ : _ ∧ k_ ≠ gb430))) (fun _ hk => hk.2) (.int .i64 t427)) (fun _ hk => hk.2) (.int .i64 t428)) (fun _ h_ => h_.1)))); (case side2 => exact (Kd.N_reads' HO_11.out).2.1); (case side3 => refine (Kd.N_reads' (e := 64) (base := w.heap.size) (ok := fun k_ => ((some k_ ≠ (.slice Ao81 t410.length co81 : Value).ownBlock ∧ k_ ≠ gb408) ∧ k_ ≠ gb430)) (n := t414.length) (c := co82) ?_).2.2; exact (by (with_reducible repeat (first | apply Kd.N_alloc | apply Kd.N_drewN | apply Kd.N_drew)); exact (Kd.N_mono (Kd.N_far (p := ⟨gb430, 1, none⟩) (Kd.N_far (p := ⟨gb430, 0, none⟩) (Kd.N_mono HO_13.out (fun k_ hk => (⟨hk, hk.2⟩ : _ ∧ k_ ≠ gb430))) (fun _ hk => hk.2) (.int .i64 t427)) (fun _ hk => hk.2) (.int .i64 t428)) (fun _ h_ => h_.1)))); (case side4 => exact (Kd.N_reads' HO_13.out).2.1); rintro e w83 ⟨rfl, hb⟩; refine ⟨_, rfl, ?_⟩; replace HO_11 := Aside0.mk (Kd.N_below (by (with_reducible repeat (first | apply Kd.N_alloc | apply Kd.N_drewN | apply Kd.N_drew)); exact (Kd.N_mono (Kd.N_far (p := ⟨gb430, 1, none⟩) (Kd.N_far (p := ⟨gb430, 0, none⟩) (Kd.N_mono HO_11.out (fun k_ hk => (⟨hk, hk.2⟩ : _ ∧ k_ ≠ gb430))) (fun _ hk => hk.2) (.int .i64 t427)) (fun _ hk => hk.2) (.int .i64 t428)) (fun _ h_ => h_.1))) hb); replace HO_13 := Aside0.mk (Kd.N_below (by (with_reducible repeat (first | apply Kd.N_alloc | apply Kd.N_drewN | apply Kd.N_drew)); exact (Kd.N_mono (Kd.N_far (p := ⟨gb430, 1, none⟩) (Kd.N_far (p := ⟨gb430, 0, none⟩) (Kd.N_mono HO_13.out (fun k_ hk => (⟨hk, hk.2⟩ : _ ∧ k_ ≠ gb430))) (fun _ hk => hk.2) (.int .i64 t427)) (fun _ hk => hk.2) (.int .i64 t428)) (fun _ h_ => h_.1))) hb); replace BK408 := Aside0.mk (blk_below (g := gb408) (o := .cells #[.int .i64 a0_0, .int .i64 a0_1] 23 (0, 0)) (by (with_reducible repeat (first | refine blk_drewN ?_ _ | refine blk_drew ?_ | refine blk_alloc ?_ _)); refine blk_far ?_ NB408_430.out _; (with_reducible repeat (first | refine blk_drewN ?_ _ | refine blk_drew ?_ | refine blk_alloc ?_ _)); refine blk_far ?_ NB408_430.out _; (with_reducible repeat (first | refine blk_drewN ?_ _ | refine blk_drew ?_ | refine blk_alloc ?_ _)); exact BK408.out) hb); replace BK430 := Aside0.mk (blk_below (g := gb430) (o := .cells #[.int .i64 t427, .int .i64 t428] 23 (0, 0)) (by (with_reducible repeat (first | refine blk_drewN ?_ _ | refine blk_drew ?_ | refine blk_alloc ?_ _)); refine blk_put (cs := #[.int .i64 t427, .int .i64 0]) ?_ 1 _ rfl; (with_reducible repeat (first | refine blk_drewN ?_ _ | refine blk_drew ?_ | refine blk_alloc ?_ _)); refine blk_put (cs := #[.int .i64 0, .int .i64 0]) ?_ 0 _ rfl; (with_reducible repeat (first | refine blk_drewN ?_ _ | refine blk_drew ?_ | refine blk_alloc ?_ _)); exact BK430.out) hb); replace HB := Aside0.mk (below_step (by repeat (with_reducible first | exact HB.out | refine below_set ?_ GE430.out)) hb); (try clear hb)) | ((with_reducible refine gate_dst (N := 17) rfl ?_); refine box_event ?hg (N := 17) ?hd (cs := #[.int .i64 0, .int .i64 0]) (t := 23) ?hr ?_; (case hd | hg => rfl); (case hr => go_simp; done); intro gb434 hg w84 hbox hb; replace HO_11 := Aside0.mk (Kd.N_below (Kd.N_elderB (by (with_reducible repeat (first | apply Kd.N_alloc | apply Kd.N_drewN | apply Kd.N_drew)); exact HO_11.out) gb434 (Nat.le_of_eq hg.symm)) hb); replace HO_13 := Aside0.mk (Kd.N_below (Kd.N_elderB (by (with_reducible repeat (first | apply Kd.N_alloc | apply Kd.N_drewN | apply Kd.N_drew)); exact HO_13.out) gb434 (Nat.le_of_eq hg.symm)) hb); have BK434 := Aside0.mk (hbox); have GW434 := gw_ HB.out hg; have GE434 := gw_ HB.out hg; replace HB := Aside0.mk (below_step HB.out hb); have NB408_434 := Aside0.mk ((by rw [hg]; exact Nat.ne_of_lt (blk_lt (g := gb408) (o := .cells #[.int .i64 a0_0, .int .i64 a0_1] 23 (0, 0)) (by (with_reducible repeat (first | refine blk_drewN ?_ _ | refine blk_drew ?_ | refine blk_alloc ?_ _)); exact BK408.out)) : gb408 ≠ gb434)); have NB434_408 := Aside0.mk ((by rw [hg]; exact Nat.ne_of_gt (blk_lt (g := gb408) (o := .cells #[.int .i64 a0_0, .int .i64 a0_1] 23 (0, 0)) (by (with_reducible repeat (first | refine blk_drewN ?_ _ | refine blk_drew ?_ | refine blk_alloc ?_ _)); exact BK408.out)) : gb434 ≠ gb408)); replace BK408 := Aside0.mk (blk_below (g := gb408) (o := .cells #[.int .i64 a0_0, .int .i64 a0_1] 23 (0, 0)) (by (with_reducible repeat (first | refine blk_drewN ?_ _ | refine blk_drew ?_ | refine blk_alloc ?_ _)); exact BK408.out) hb); have NB430_434 := Aside0.mk ((by rw [hg]; exact Nat.ne_of_lt (blk_lt (g := gb430) (o := .cells #[.int .i64 t427, .int .i64 t428] 23 (0, 0)) (by (with_reducible repeat (first | refine blk_drewN ?_ _ | refine blk_drew ?_ | refine blk_alloc ?_ _)); exact BK430.out)) : gb430 ≠ gb434)); have NB434_430 := Aside0.mk ((by rw [hg]; exact Nat.ne_of_gt (blk_lt (g := gb430) (o := .cells #[.int .i64 t427, .int .i64 t428] 23 (0, 0)) (by (with_reducible repeat (first | refine blk_drewN ?_ _ | refine blk_drew ?_ | refine blk_alloc ?_ _)); exact BK430.out)) : gb434 ≠ gb430)); replace BK430 := Aside0.mk (blk_below (g := gb430) (o := .cells #[.int .i64 t427, .int .i64 t428] 23 (0, 0)) (by (with_reducible repeat (first | refine blk_drewN ?_ _ | refine blk_drew ?_ | refine blk_alloc ?_ _)); exact BK430.out) hb); clear hb hbox hg; have hnb85 := NB434_408.out; have hnc85 := NB408_434.out; have hnb86 := NB434_430.out; have hnc86 := NB430_434.out; have hcz87_0 := cz0_ BK434; have hcz87_1 := cz1_ BK434; have hfz87_0 := blk_frozen BK434.out 0; have hfz87_1 := blk_frozen BK434.out 1))
            go_ret
            exact ⟨rfl, by repeat (with_reducible first | exact HB.out | refine below_set ?_ GE434.out)⟩
   ·
    rw [if_neg c11] at H
    have c11b0 : (t417 == 0) = false := beq_eq_false_iff_ne.mpr c11
    have c11b1 : (t417 != 0) = true := bne_iff_ne.mpr c11
    obtain rfl := Option.some.inj H
    go_enter Try.func3, Try.ntmps3
    go_wp2_with (first | ((with_reducible refine gate_dst (N := 5) rfl ?_); refine box_event ?hg (N := 5) ?hd (cs := #[.int .i64 a0_0, .int .i64 a0_1]) (t := 23) ?hr ?_; (case hd | hg => rfl); (case hr => go_simp; done); intro gb408 hg w88 hbox hb; have BK408 := Aside0.mk (hbox); have GW408 := gw_ HB.out hg; have GE408 := gw_ HB.out hg; replace HB := Aside0.mk (below_step HB.out hb); clear hb hbox hg) | ((with_reducible refine gate_callee (f := 8) rfl ?_); refine goesL_ (some 18) rfl rfl Try.func8 (by kernel_rfl) rfl #[] rfl (by (try simp only [List.map_toArray, List.map_cons, List.map_nil]); done) ?_; (with_reducible refine (hushlaw6_alive.calls k  true _ A6.out).mono ?_); rintro e w89 ⟨rfl, hb⟩; refine ⟨_, rfl, ?_⟩; replace BK408 := Aside0.mk (blk_below (g := gb408) (o := .cells #[.int .i64 a0_0, .int .i64 a0_1] 23 (0, 0)) (by (with_reducible repeat (first | refine blk_drewN ?_ _ | refine blk_drew ?_ | refine blk_alloc ?_ _)); exact BK408.out) hb); replace HB := Aside0.mk (below_step HB.out hb); (try clear hb); have hcz90_0 := cz0_ BK408; have hcz90_1 := cz1_ BK408; have hfz90_0 := blk_frozen BK408.out 0; have hfz90_1 := blk_frozen BK408.out 1) | ((with_reducible refine gate_callee (f := 9) rfl ?_); refine goesL_ (some 25) rfl rfl Try.func9 (by kernel_rfl) rfl #[.agg #[.int .i64 a0_0, .int .i64 a0_1], .int .i64 a1, .int .i64 a2, .int .i64 a3] rfl (by (try simp only [List.map_toArray, List.map_cons, List.map_nil]); rfl) ?_; (with_reducible refine (noise_Hide.calls k a0_0 a0_1 a1 a2 a3 t410 t413 _ A8.out).mono ?_); rintro e w91 ⟨v411, rfl, ho0, hb⟩; refine ⟨_, rfl, ?_⟩; have HO412 := Aside0.mk (Kd.N_lower (Kd.N_mono (ok' := fun k_ => k_ ≠ gb408) ho0 (fun k_ hk_ => (Kd.freshB (g := gb408) (o := .cells #[.int .i64 a0_0, .int .i64 a0_1] 23 (0, 0)) (by (with_reducible repeat (first | refine blk_drewN ?_ _ | refine blk_drew ?_ | refine blk_alloc ?_ _)); exact BK408.out) k_ hk_))) (below_size HB.out)); replace BK408 := Aside0.mk (blk_below (g := gb408) (o := .cells #[.int .i64 a0_0, .int .i64 a0_1] 23 (0, 0)) (by (with_reducible repeat (first | refine blk_drewN ?_ _ | refine blk_drew ?_ | refine blk_alloc ?_ _)); exact BK408.out) hb); replace HB := Aside0.mk (below_step HB.out hb); (try clear hb); (try clear ho0); have hcz92_0 := cz0_ BK408; have hcz92_1 := cz1_ BK408; have hfz92_0 := blk_frozen BK408.out 0; have hfz92_1 := blk_frozen BK408.out 1) | ((with_reducible refine gate_callee (f := 9) rfl ?_); refine goesL_ (some 35) rfl rfl Try.func9 (by kernel_rfl) rfl #[.agg #[.int .i64 a0_0, .int .i64 a0_1], .int .i64 a1, .int .i64 a2, .int .i64 a4] rfl (by (try simp only [List.map_toArray, List.map_cons, List.map_nil]); rfl) ?_; (with_reducible refine (noise_Hide.calls k a0_0 a0_1 a1 a2 a4 t414 t417 _ A10.out).mono ?_); rintro e w93 ⟨v415, rfl, ho0, hb⟩; refine ⟨_, rfl, ?_⟩; have HO416 := Aside0.mk (Kd.N_lower (Kd.N_mono (ok' := fun k_ => some k_ ≠ (v411 : Value).ownBlock ∧ k_ ≠ gb408) ho0 (fun k_ hk_ => ⟨(Kd.fresh' (Kd.N_lt (by (with_reducible repeat (first | apply Kd.N_alloc | apply Kd.N_drewN | apply Kd.N_drew)); exact HO412.out)) k_ hk_), (Kd.freshB (g := gb408) (o := .cells #[.int .i64 a0_0, .int .i64 a0_1] 23 (0, 0)) (by (with_reducible repeat (first | refine blk_drewN ?_ _ | refine blk_drew ?_ | refine blk_alloc ?_ _)); exact BK408.out) k_ hk_)⟩)) (below_size HB.out)); replace HO412 := Aside0.mk (Kd.N_elder' (by (with_reducible repeat (first | apply Kd.N_alloc | apply Kd.N_drewN | apply Kd.N_drew)); exact HO412.out) (Kd.N_base ho0) hb); replace BK408 := Aside0.mk (blk_below (g := gb408) (o := .cells #[.int .i64 a0_0, .int .i64 a0_1] 23 (0, 0)) (by (with_reducible repeat (first | refine blk_drewN ?_ _ | refine blk_drew ?_ | refine blk_alloc ?_ _)); exact BK408.out) hb); replace HB := Aside0.mk (below_step HB.out hb); (try clear hb); (try clear ho0)))
    go_ret
    exact ⟨rfl, HB.out⟩
  ·
   rw [if_neg c9] at H
   have c9b0 : (t413 == 0) = false := beq_eq_false_iff_ne.mpr c9
   have c9b1 : (t413 != 0) = true := bne_iff_ne.mpr c9
   obtain rfl := Option.some.inj H
   go_enter Try.func3, Try.ntmps3
   go_wp2_with (first | ((with_reducible refine gate_dst (N := 5) rfl ?_); refine box_event ?hg (N := 5) ?hd (cs := #[.int .i64 a0_0, .int .i64 a0_1]) (t := 23) ?hr ?_; (case hd | hg => rfl); (case hr => go_simp; done); intro gb408 hg w94 hbox hb; have BK408 := Aside0.mk (hbox); have GW408 := gw_ HB.out hg; have GE408 := gw_ HB.out hg; replace HB := Aside0.mk (below_step HB.out hb); clear hb hbox hg) | ((with_reducible refine gate_callee (f := 8) rfl ?_); refine goesL_ (some 18) rfl rfl Try.func8 (by kernel_rfl) rfl #[] rfl (by (try simp only [List.map_toArray, List.map_cons, List.map_nil]); done) ?_; (with_reducible refine (hushlaw6_alive.calls k  true _ A6.out).mono ?_); rintro e w95 ⟨rfl, hb⟩; refine ⟨_, rfl, ?_⟩; replace BK408 := Aside0.mk (blk_below (g := gb408) (o := .cells #[.int .i64 a0_0, .int .i64 a0_1] 23 (0, 0)) (by (with_reducible repeat (first | refine blk_drewN ?_ _ | refine blk_drew ?_ | refine blk_alloc ?_ _)); exact BK408.out) hb); replace HB := Aside0.mk (below_step HB.out hb); (try clear hb); have hcz96_0 := cz0_ BK408; have hcz96_1 := cz1_ BK408; have hfz96_0 := blk_frozen BK408.out 0; have hfz96_1 := blk_frozen BK408.out 1) | ((with_reducible refine gate_callee (f := 9) rfl ?_); refine goesL_ (some 25) rfl rfl Try.func9 (by kernel_rfl) rfl #[.agg #[.int .i64 a0_0, .int .i64 a0_1], .int .i64 a1, .int .i64 a2, .int .i64 a3] rfl (by (try simp only [List.map_toArray, List.map_cons, List.map_nil]); rfl) ?_; (with_reducible refine (noise_Hide.calls k a0_0 a0_1 a1 a2 a3 t410 t413 _ A8.out).mono ?_); rintro e w97 ⟨v411, rfl, ho0, hb⟩; refine ⟨_, rfl, ?_⟩; have HO412 := Aside0.mk (Kd.N_lower (Kd.N_mono (ok' := fun k_ => k_ ≠ gb408) ho0 (fun k_ hk_ => (Kd.freshB (g := gb408) (o := .cells #[.int .i64 a0_0, .int .i64 a0_1] 23 (0, 0)) (by (with_reducible repeat (first | refine blk_drewN ?_ _ | refine blk_drew ?_ | refine blk_alloc ?_ _)); exact BK408.out) k_ hk_))) (below_size HB.out)); replace BK408 := Aside0.mk (blk_below (g := gb408) (o := .cells #[.int .i64 a0_0, .int .i64 a0_1] 23 (0, 0)) (by (with_reducible repeat (first | refine blk_drewN ?_ _ | refine blk_drew ?_ | refine blk_alloc ?_ _)); exact BK408.out) hb); replace HB := Aside0.mk (below_step HB.out hb); (try clear hb); (try clear ho0)))
   go_ret
   exact ⟨rfl, HB.out⟩
 ·
  replace c7 := Bool.eq_false_iff.mpr c7
  subst c7
  rw [if_neg (show ¬ (false = true) by decide)] at H
  obtain rfl := Option.some.inj H
  go_enter Try.func3, Try.ntmps3
  go_wp2_with (first | ((with_reducible refine gate_dst (N := 5) rfl ?_); refine box_event ?hg (N := 5) ?hd (cs := #[.int .i64 a0_0, .int .i64 a0_1]) (t := 23) ?hr ?_; (case hd | hg => rfl); (case hr => go_simp; done); intro gb408 hg w98 hbox hb; have BK408 := Aside0.mk (hbox); have GW408 := gw_ HB.out hg; have GE408 := gw_ HB.out hg; replace HB := Aside0.mk (below_step HB.out hb); clear hb hbox hg) | ((with_reducible refine gate_callee (f := 8) rfl ?_); refine goesL_ (some 18) rfl rfl Try.func8 (by kernel_rfl) rfl #[] rfl (by (try simp only [List.map_toArray, List.map_cons, List.map_nil]); done) ?_; (with_reducible refine (hushlaw6_alive.calls k  false _ A6.out).mono ?_); rintro e w99 ⟨rfl, hb⟩; refine ⟨_, rfl, ?_⟩; replace BK408 := Aside0.mk (blk_below (g := gb408) (o := .cells #[.int .i64 a0_0, .int .i64 a0_1] 23 (0, 0)) (by (with_reducible repeat (first | refine blk_drewN ?_ _ | refine blk_drew ?_ | refine blk_alloc ?_ _)); exact BK408.out) hb); replace HB := Aside0.mk (below_step HB.out hb); (try clear hb)))
  go_ret
  exact ⟨rfl, HB.out⟩

/-- THE PURE STATEMENT of hushlaw6_NoiseKeeps. -/
def hushlaw6_NoiseKeeps.Pure : Prop := ∀ (p0 : S23) (p1 : Int) (p2 : Int) (p3 : Int) (p4 : Int), ((Lit.int .i64 p0.f0).wf = true ∧ (Lit.int .i64 p0.f1).wf = true) → (Lit.int .i64 p1).wf = true → (Lit.int .i64 p2).wf = true → (Lit.int .i64 p3).wf = true → (Lit.int .i64 p4).wf = true → ∃ k, hushlaw6_NoiseKeeps.f k p0.f0 p0.f1 p1 p2 p3 p4 = some true

end Go.Proofs.Ytjbgnlhgjgnclaa.PB

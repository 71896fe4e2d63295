
/- Functions of the program in Lean, by wip/xprint.py. Conditions: in each theorem. -/
import Derived.Test.YtjbgnlhgjgnclaaPBxs
import Derived.Test.YtjbgnlhgjgnclaaPBx0
import Derived.Test.YtjbgnlhgjgnclaaPBx1
import Derived.Test.YtjbgnlhgjgnclaaPBx8
import Derived.Test.YtjbgnlhgjgnclaaPBx9
import Derived.Test.YtjbgnlhgjgnclaaPBx16
import Derived.Test.YtjbgnlhgjgnclaaPBx17
import Derived.Test.YtjbgnlhgjgnclaaPBx19
import Derived.Test.YtjbgnlhgjgnclaaPBx20
import Derived.Test.YtjbgnlhgjgnclaaPBx22
import Derived.Test.YtjbgnlhgjgnclaaPBx23
namespace Go.Proofs.Ytjbgnlhgjgnclaa.PB
open Go.RowKit Go.Proofs.YtjbgnlhgjgnclaaW.PrintWords Go.Proofs.YtjbgnlhgjgnclaaW.PrintLast Go.Proofs.YtjbgnlhgjgnclaaW.PrintMore
attribute [local go_sem] max2_int min2_int max_two min_two max_three min_three max_four min_four   -- for this text's walks alone
set_option linter.unusedVariables false
set_option linter.unusedSimpArgs false

attribute [local go_sem high] eqA23
/-! ### hushlaw6_NoiseHides: function 4 -/
mutual
def hushlaw6_NoiseHides.l0 : Nat → Int → Int → List Int → Int → Int → List Int → Int → Int → Int → Int → Option (Bool)
 | 0, _, _, _, _, _, _, _, _, _, _ => none
 | k + 1, x1, x2, x3, x4, x5, x30, x31, x32, x346000, x346001 => if x32 < x31 then (if 0 ≤ x32 then (if x32 < (x30.length : Int) then ((noise_Hide.f k x346000 x346001 x1 x2 (rd x30 x32)).bind fun bt353 => ((hushref6_Hide.f k x346000 x346001 x1 x2 (rd x30 x32)).bind fun bt357 => ((hushref2_Same.f k bt353.1 bt357.1).bind fun t361 => (if t361 = true then (if bt353.2 = bt357.2 then (hushlaw6_NoiseHides.l0 k x1 x2 x3 x4 x5 x30 x31 (wrap64 (x32 + 1)) x346000 x346001) else (some false)) else (some false))))) else (none)) else (none)) else ((noise_HideAll.f k x346000 x346001 x1 x2 x3).bind fun bt362 => ((hushref6_HideAll.f k x346000 x346001 x1 x2 x3).bind fun bt366 => ((hushref6_SameDists.f k bt362.1 bt366.1).bind fun t370 => (if t370 = true then (hushlaw6_NoiseHides.j1 k x4 x5 (bt362.2 != bt366.2) x346000 x346001) else (hushlaw6_NoiseHides.j1 k x4 x5 true x346000 x346001)))))
def hushlaw6_NoiseHides.j1 : Nat → Int → Int → Bool → Int → Int → Option (Bool)
 | 0, _, _, _, _, _ => none
 | k + 1, x4, x5, x86, x346000, x346001 => if x86 = true then (some false) else ((noise_Lost.f k x346000 x346001 x4).bind fun bt371 => ((hushref6_Lost.f k x346000 x346001 x4).bind fun bt375 => (if (!(bt371.1 == bt375.1) || (!(bt371.2.1 == bt375.2.1))) = true then (hushlaw6_NoiseHides.j2 k x4 x5 true x346000 x346001) else (hushlaw6_NoiseHides.j2 k x4 x5 (bt371.2.2 != bt375.2.2) x346000 x346001))))
def hushlaw6_NoiseHides.j2 : Nat → Int → Int → Bool → Int → Int → Option (Bool)
 | 0, _, _, _, _, _ => none
 | k + 1, x4, x5, x106, x346000, x346001 => if x106 = true then (some false) else ((noise_Respond.f k x346000 x346001 x4 x5).bind fun bt379 => ((hushref6_Respond.f k x346000 x346001 x4 x5).bind fun bt383 => ((hushref2_Same.f k bt379.1 bt383.1).bind fun t387 => (if t387 = true then (some (bt379.2 == bt383.2)) else (some false)))))
end
def hushlaw6_NoiseHides.f (k : Nat) (a0_0 : Int) (a0_1 : Int) (a1 : Int) (a2 : Int) (l3 : List Int) (a4 : Int) (a5 : Int) : Option (Bool) := (some (([a5] : List Int) : List Int)).bind fun y346 => (if y346.length + l3.length < 17592186044416 then ((some (y346 ++ l3 : List Int)).bind fun y349 => (hushlaw6_NoiseHides.l0 k a1 a2 l3 a4 a5 y349 (y349.length : Int) 0 a0_0 a0_1)) else (none))
theorem hushlaw6_NoiseHides.mono_l : ∀ k, (∀ y0 y1 y2 y3 y4 y5 y6 y7 y8 y9, LeO (hushlaw6_NoiseHides.l0 k y0 y1 y2 y3 y4 y5 y6 y7 y8 y9) (hushlaw6_NoiseHides.l0 (k + 1) y0 y1 y2 y3 y4 y5 y6 y7 y8 y9)) ∧ (∀ y0 y1 y2 y3 y4, LeO (hushlaw6_NoiseHides.j1 k y0 y1 y2 y3 y4) (hushlaw6_NoiseHides.j1 (k + 1) y0 y1 y2 y3 y4)) ∧ (∀ y0 y1 y2 y3 y4, LeO (hushlaw6_NoiseHides.j2 k y0 y1 y2 y3 y4) (hushlaw6_NoiseHides.j2 (k + 1) y0 y1 y2 y3 y4))
 | 0 => ⟨fun _ _ _ _ _ _ _ _ _ _ r h => by simp [hushlaw6_NoiseHides.l0] at h, fun _ _ _ _ _ r h => by simp [hushlaw6_NoiseHides.j1] at h, fun _ _ _ _ _ r h => by simp [hushlaw6_NoiseHides.j2] at h⟩
 | k + 1 => by
  obtain ⟨ih0, ih1, ih2⟩ := hushlaw6_NoiseHides.mono_l k
  refine ⟨?_, ?_, ?_⟩
  ·
   intro y0 y1 y2 y3 y4 y5 y6 y7 y8 y9
   unfold hushlaw6_NoiseHides.l0
   repeat' first
   | (with_reducible exact ih0 _ _ _ _ _ _ _ _ _ _)
   | (with_reducible exact ih1 _ _ _ _ _)
   | (with_reducible exact hushref2_Same.mono _ _ _)
   | (with_reducible exact hushref6_Hide.mono _ _ _ _ _ _)
   | (with_reducible exact hushref6_HideAll.mono _ _ _ _ _ _)
   | (with_reducible exact hushref6_SameDists.mono _ _ _)
   | (with_reducible exact noise_Hide.mono _ _ _ _ _ _)
   | (with_reducible exact noise_HideAll.mono _ _ _ _ _ _)
   | (with_reducible exact LeO.refl _)
   | (with_reducible refine LeO.ite ?_ ?_)
   | (with_reducible refine LeO.bind ?_ (fun _ => ?_))
  ·
   intro y0 y1 y2 y3 y4
   unfold hushlaw6_NoiseHides.j1
   repeat' first
   | (with_reducible exact ih2 _ _ _ _ _)
   | (with_reducible exact hushref6_Lost.mono _ _ _ _)
   | (with_reducible exact noise_Lost.mono _ _ _ _)
   | (with_reducible exact LeO.refl _)
   | (with_reducible refine LeO.ite ?_ ?_)
   | (with_reducible refine LeO.bind ?_ (fun _ => ?_))
  ·
   intro y0 y1 y2 y3 y4
   unfold hushlaw6_NoiseHides.j2
   repeat' first
   | (with_reducible exact hushref2_Same.mono _ _ _)
   | (with_reducible exact hushref6_Respond.mono _ _ _ _ _)
   | (with_reducible exact noise_Respond.mono _ _ _ _ _)
   | (with_reducible exact LeO.refl _)
   | (with_reducible refine LeO.ite ?_ ?_)
   | (with_reducible refine LeO.bind ?_ (fun _ => ?_))
theorem hushlaw6_NoiseHides.mono : ∀ a0 a1 a2 a3 a4 a5 a6 k, LeO (hushlaw6_NoiseHides.f k a0 a1 a2 a3 a4 a5 a6) (hushlaw6_NoiseHides.f (k + 1) a0 a1 a2 a3 a4 a5 a6) := by
 intro a0 a1 a2 a3 a4 a5 a6 k
 obtain ⟨ih0, ih1, ih2⟩ := hushlaw6_NoiseHides.mono_l k
 unfold hushlaw6_NoiseHides.f
 repeat' first
   | (with_reducible exact ih0 _ _ _ _ _ _ _ _ _ _)
   | (with_reducible exact LeO.refl _)
   | (with_reducible refine LeO.ite ?_ ?_)
   | (with_reducible refine LeO.bind ?_ (fun _ => ?_))
set_option maxHeartbeats 8000000 in
set_option maxRecDepth 100000 in
theorem hushlaw6_NoiseHides.calls (k : Nat) (a0_0 : Int) (a0_1 : Int) (a1 : Int) (a2 : Int) (A3 : Option Addr) (c3 : Nat) (l3 : List Int) (a4 : Int) (a5 : Int) (r : Bool) (w : World) (hr3 : Kd.C (Kd.int .i64) w A3 l3.length l3) (hc3 : l3.length ≤ c3) (h : hushlaw6_NoiseHides.f k a0_0 a0_1 a1 a2 l3 a4 a5 = some r) :
  Calls Try.prog 4 #[.agg #[.int .i64 a0_0, .int .i64 a0_1], .int .i64 a1, .int .i64 a2, .slice A3 l3.length c3, .int .i64 a4, .int .i64 a5] w fun e w' => e = .returned (.bool r) ∧ Below w.heap.size w w' := by
 have hu23 := Try.underlying23
 have HR3 := Aside0.mk hr3
 have HC3 := Aside0.mk hc3
 clear hr3 hc3
 have HB := Aside0.mk (Below.refl w.heap.size w)
 have H : ((some (([a5] : List Int) : List Int)).bind fun y346 => (if y346.length + l3.length < 17592186044416 then ((some (y346 ++ l3 : List Int)).bind fun y349 => (hushlaw6_NoiseHides.l0 k a1 a2 l3 a4 a5 y349 (y349.length : Int) 0 a0_0 a0_1)) else (none))) = some r := h
 clear h
 obtain ⟨y346, hy346⟩ : ∃ y_ : List Int, y_ = (([a5] : List Int)) := ⟨_, rfl⟩
 replace H : (if y346.length + l3.length < 17592186044416 then ((some (y346 ++ l3 : List Int)).bind fun y349 => (hushlaw6_NoiseHides.l0 k a1 a2 l3 a4 a5 y349 (y349.length : Int) 0 a0_0 a0_1)) else (none)) = some r := by (have H2_ := (Option.bind_some _ _).symm.trans H; rw [hy346]; with_reducible exact H2_)
 have Ny346 := Aside0.mk hy346
 clear hy346
 by_cases c7 : y346.length + l3.length < 17592186044416
 ·
  rw [if_pos c7] at H
  have LMc7 := Aside0.mk c7
  clear c7
  obtain ⟨y349, hy349⟩ : ∃ y_ : List Int, y_ = (y346 ++ l3) := ⟨_, rfl⟩
  replace H : (hushlaw6_NoiseHides.l0 k a1 a2 l3 a4 a5 y349 (y349.length : Int) 0 a0_0 a0_1) = some r := by (have H2_ := (Option.bind_some _ _).symm.trans H; rw [hy349]; with_reducible exact H2_)
  have Ny349 := Aside0.mk hy349
  clear hy349
  have H' := Aside0.mk H
  clear H
  go_enter Try.func4, Try.ntmps4
  go_wp2_with (first | ((with_reducible refine gate_dst (N := 6) rfl ?_); refine box_event ?hg (N := 6) ?hd (cs := #[.int .i64 a0_0, .int .i64 a0_1]) (t := 23) ?hr ?_; (case hd | hg => rfl); (case hr => go_simp; done); intro gb345 hg w8 hbox hb; have BK345 := Aside0.mk (hbox); have GW345 := gw_ HB.out hg; have GE345 := gw_ HB.out hg; replace HB := Aside0.mk (below_step HB.out hb); clear hb hbox hg) | ((with_reducible refine gate_dst (N := 28) rfl ?_); refine Kd.R_lit (Kd.int .i64) _ 3 ?hg (N := 28) ?hd (xs := ([a5] : List Int)) (inner := [.int .i64 a5]) (ok := fun _ => True) (okp := fun _ => True) ?hr ?hp (fun _ hk => hk) trivial (Below.refl _ _) (Nat.le_refl _) (by simp) ?_; (case hd | hg => rfl); (case hr => go_simp; done); (case hp => exact (Reps.one (show Kd.M (Kd.int .i64) _ _ _ a5 [.int .i64 a5] from rfl) (Reps.none _ _))); intro v347 w9 ho10 hb hg_ hnew_; clear hg_ hnew_; (rw [← Ny346.out] at ho10); have HO348 := Aside0.mk (Kd.R_lower ho10 (below_size HB.out)); replace BK345 := Aside0.mk (blk_below (g := gb345) (o := .cells #[.int .i64 a0_0, .int .i64 a0_1] 23 (0, 0)) (by (with_reducible repeat (first | refine blk_drewN ?_ _ | refine blk_drew ?_ | refine blk_alloc ?_ _)); exact BK345.out) hb); replace HB := Aside0.mk (below_step HB.out hb); clear hb ho10) | ((with_reducible refine gate_builtin (b := .append) (xs := #[.tmp 28, .tmp 29]) rfl ?_); at_builtin; refine Kd.R_append_rows (Kd.int .i64) (w0 := w) w.heap.size rfl (.tmp 28) (.tmp 29) 35 3 (.int .i64 0) 8 rfl Try.underlying35 info3 rfl (by decide) (by omega) v347 y346 l3 _ _ _ (fun _ => True) (fun _ => False) rfl rfl ?aO ?aR (fun _ _ h => h) (fun _ h => h.elim) ?aF ?aB ?aS ?aL ?_; (case aR => repeat (exact (Kd.C_below HR3.out HB.out))); (case aB => exact HB.out); (case aF => exact (fun _ _ => trivial)); (case aO => exact (by (with_reducible repeat (first | apply Kd.R_alloc | apply Kd.R_drewN | apply Kd.R_drew)); exact HO348.out)); (case aS => exact (below_size HB.out)); (case aL => have := LMc7.out; omega); intro v350 w11 ho hb hg hat; rw [← Ny349.out] at ho; replace BK345 := Aside0.mk (blk_grown (g := gb345) (o := .cells #[.int .i64 a0_0, .int .i64 a0_1] 23 (0, 0)) (by (with_reducible repeat (first | refine blk_drewN ?_ _ | refine blk_drew ?_ | refine blk_alloc ?_ _)); exact BK345.out) hg (Kd.R_ne HO348.out BK345.out (by decide))); replace HB := Aside0.mk (hb); have HO351 := Aside0.mk (ho); clear HO348; clear ho hb hg hat; obtain ⟨Ao12, co12, eo12⟩ := Kd.R_slice HO351.out; subst eo12))
  go_loopg [32] k (fun kq v32 w' => ∃ (x32_1 : Int), v32 = .int .i64 x32_1 ∧ Aside0 (hushlaw6_NoiseHides.l0 kq a1 a2 l3 a4 a5 y349 (y349.length : Int) x32_1 a0_0 a0_1 = some r) ∧ Aside0 (kq ≤ k) ∧ Aside0 (Kd.R (Kd.int .i64) 3 w' w.heap.size (fun _ => True) (.slice Ao12 y349.length co12) y349) ∧ Aside0 (w'.heap[gb345]? = some (.cells #[.int .i64 a0_0, .int .i64 a0_1] 23 (0, 0))) ∧ Aside0 (Below w.heap.size w w'))
  case atStart => exact ⟨(0), rfl, H', ⟨Nat.le_refl _⟩, ⟨by (with_reducible repeat (first | apply Kd.R_alloc | apply Kd.R_drewN | apply Kd.R_drew)); exact HO351.out⟩, ⟨by (with_reducible repeat (first | refine blk_drewN ?_ _ | refine blk_drew ?_ | refine blk_alloc ?_ _)); exact BK345.out⟩, ⟨HB.out⟩⟩
  case round =>
   clear H'
   obtain ⟨x32_1, rfl, HA, HK1, HO_30, BK345, HB⟩ := hrel
   cases gk with
   | zero => exact absurd HA.out (by simp [hushlaw6_NoiseHides.l0])
   | succ k1 =>
    have H := HA.out
    clear HA
    simp only [hushlaw6_NoiseHides.l0] at H
    by_cases c13 : x32_1 < (y349.length : Int)
    ·
     rw [if_pos c13] at H
     have c13b0 : decide (x32_1 < (y349.length : Int)) = true := decide_eq_true c13
     clear c13
     by_cases c14 : 0 ≤ x32_1
     ·
      rw [if_pos c14] at H
      have c14b0 : decide (0 ≤ x32_1) = true := decide_eq_true c14
      clear c14
      by_cases c15 : x32_1 < (y349.length : Int)
      ·
       rw [if_pos c15] at H
       have c15b0 : decide (x32_1 < (y349.length : Int)) = true := decide_eq_true c15
       clear c15
       obtain ⟨⟨t353, t356⟩, A16, H⟩ := bnd_ H
       dsimp only at H
       obtain ⟨⟨t357, t360⟩, A17, H⟩ := bnd_ H
       dsimp only at H
       obtain ⟨t361, A18, H⟩ := bnd_ H
       by_cases c19 : t361 = true
       ·
        subst c19
        rw [if_pos rfl] at H
        by_cases c20 : t356 = t360
        ·
         rw [if_pos c20] at H
         have c20b0 : (t356 == t360) = true := beq_iff_eq.mpr c20
         have c20b1 : (t356 != t360) = false := bne_eq_false_iff_eq.mpr c20
         clear c20
         have H' := Aside0.mk H
         clear H
         have p352 : 0 ≤ (x32_1 : Int) := of_decide_eq_true (by (with_reducible assumption))
         have q352 : x32_1 < (y349.length : Int) := of_decide_eq_true (by (with_reducible assumption))
         obtain ⟨ad352, e352, hx352_0⟩ := Kd.at_int (Kd.R_reads' HO_30.out).2.2 x32_1 p352 q352
         cases e352
         replace p352 := eq_true p352
         replace q352 := eq_true q352
         have hcz21_0 := cz0_ BK345
         have hcz21_1 := cz1_ BK345
         have hfz21_0 := blk_frozen BK345.out 0
         have hfz21_1 := blk_frozen BK345.out 1
         go_wp2_with (first | ((with_reducible refine gate_callee (f := 9) rfl ?_); refine goesL_ (some 41) rfl rfl Try.func9 (by kernel_rfl) rfl #[.agg #[.int .i64 a0_0, .int .i64 a0_1], .int .i64 a1, .int .i64 a2, .int .i64 (rd y349 x32_1)] rfl (by (try simp only [List.map_toArray, List.map_cons, List.map_nil]); rfl) ?_; (with_reducible refine (noise_Hide.calls k1 a0_0 a0_1 a1 a2 (rd y349 x32_1) t353 t356 _ A16.out).mono ?_); rintro e w22 ⟨v354, rfl, ho0, hb⟩; refine ⟨_, rfl, ?_⟩; have HO355 := Aside0.mk (Kd.N_lower (Kd.N_mono (ok' := fun k_ => some k_ ≠ (.slice (some ad352) y349.length co12 : Value).ownBlock ∧ k_ ≠ gb345) ho0 (fun k_ hk_ => ⟨(Kd.fresh' (Kd.R_lt (by (with_reducible repeat (first | apply Kd.R_alloc | apply Kd.R_drewN | apply Kd.R_drew)); exact HO_30.out)) k_ hk_), (Kd.freshB (g := gb345) (o := .cells #[.int .i64 a0_0, .int .i64 a0_1] 23 (0, 0)) (by (with_reducible repeat (first | refine blk_drewN ?_ _ | refine blk_drew ?_ | refine blk_alloc ?_ _)); exact BK345.out) k_ hk_)⟩)) (below_size HB.out)); replace HO_30 := Aside0.mk (Kd.R_below (by (with_reducible repeat (first | apply Kd.R_alloc | apply Kd.R_drewN | apply Kd.R_drew)); exact HO_30.out) hb); replace BK345 := Aside0.mk (blk_below (g := gb345) (o := .cells #[.int .i64 a0_0, .int .i64 a0_1] 23 (0, 0)) (by (with_reducible repeat (first | refine blk_drewN ?_ _ | refine blk_drew ?_ | refine blk_alloc ?_ _)); exact BK345.out) hb); replace HB := Aside0.mk (below_step HB.out hb); (try clear hb); (try clear ho0); have hcz23_0 := cz0_ BK345; have hcz23_1 := cz1_ BK345; have hfz23_0 := blk_frozen BK345.out 0; have hfz23_1 := blk_frozen BK345.out 1) | ((with_reducible refine gate_callee (f := 13) rfl ?_); refine goesL_ (some 49) rfl rfl Try.func13 (by kernel_rfl) rfl #[.agg #[.int .i64 a0_0, .int .i64 a0_1], .int .i64 a1, .int .i64 a2, .int .i64 (rd y349 x32_1)] rfl (by (try simp only [List.map_toArray, List.map_cons, List.map_nil]); rfl) ?_; (with_reducible refine (hushref6_Hide.calls k1 a0_0 a0_1 a1 a2 (rd y349 x32_1) t357 t360 _ A17.out).mono ?_); rintro e w24 ⟨v358, rfl, ho0, hb⟩; refine ⟨_, rfl, ?_⟩; have HO359 := Aside0.mk (Kd.N_lower (Kd.N_mono (ok' := fun k_ => some k_ ≠ (.slice (some ad352) y349.length co12 : Value).ownBlock ∧ some k_ ≠ (v354 : Value).ownBlock ∧ k_ ≠ gb345) ho0 (fun k_ hk_ => ⟨(Kd.fresh' (Kd.R_lt (by (with_reducible repeat (first | apply Kd.R_alloc | apply Kd.R_drewN | apply Kd.R_drew)); exact HO_30.out)) k_ hk_), (Kd.fresh' (Kd.N_lt (by (with_reducible repeat (first | apply Kd.N_alloc | apply Kd.N_drewN | apply Kd.N_drew)); exact HO355.out)) k_ hk_), (Kd.freshB (g := gb345) (o := .cells #[.int .i64 a0_0, .int .i64 a0_1] 23 (0, 0)) (by (with_reducible repeat (first | refine blk_drewN ?_ _ | refine blk_drew ?_ | refine blk_alloc ?_ _)); exact BK345.out) k_ hk_)⟩)) (below_size HB.out)); replace HO_30 := Aside0.mk (Kd.R_below (by (with_reducible repeat (first | apply Kd.R_alloc | apply Kd.R_drewN | apply Kd.R_drew)); exact HO_30.out) hb); replace HO355 := Aside0.mk (Kd.N_elder' (by (with_reducible repeat (first | apply Kd.N_alloc | apply Kd.N_drewN | apply Kd.N_drew)); exact HO355.out) (Kd.N_base ho0) hb); replace BK345 := Aside0.mk (blk_below (g := gb345) (o := .cells #[.int .i64 a0_0, .int .i64 a0_1] 23 (0, 0)) (by (with_reducible repeat (first | refine blk_drewN ?_ _ | refine blk_drew ?_ | refine blk_alloc ?_ _)); exact BK345.out) hb); replace HB := Aside0.mk (below_step HB.out hb); (try clear hb); (try clear ho0); obtain ⟨Ao25, co25, eo25⟩ := Kd.N_slice HO355.out; subst eo25; obtain ⟨Ao26, co26, eo26⟩ := Kd.N_slice HO359.out; subst eo26) | ((with_reducible refine gate_callee (f := 10) rfl ?_); refine goesL_ (some 54) rfl rfl Try.func10 (by kernel_rfl) rfl #[.slice Ao25 t353.length co25, .slice Ao26 t357.length co26] rfl (by (try simp only [List.map_toArray, List.map_cons, List.map_nil]); rfl) ?_; (with_reducible refine (hushref2_Same.calls k1 _ _ t353 _ _ t357 true _ ?side1 ?side2 ?side3 ?side4 A18.out).mono ?_); (case side1 => repeat (exact (Kd.N_reads' HO355.out).2.2)); (case side2 => exact (Kd.N_reads' HO355.out).2.1); (case side3 => repeat (exact (Kd.N_reads' HO359.out).2.2)); (case side4 => exact (Kd.N_reads' HO359.out).2.1); rintro e w' ⟨rfl, ⟨nd, rfl⟩⟩; refine ⟨_, rfl, ?_⟩))
         go_roundg k1
         case measure => have := HK1.out; omega
         case rel => exact ⟨(wrap64 (x32_1 + 1)), rfl, H', ⟨by have := HK1.out; omega⟩, ⟨by (with_reducible repeat (apply Kd.R_drewN)); exact HO_30.out⟩, ⟨by (with_reducible repeat (refine blk_drewN ?_ _)); exact BK345.out⟩, ⟨by repeat (with_reducible first | exact HB.out | apply pw_below_drewN)⟩⟩
        ·
         rw [if_neg c20] at H
         have c20b0 : (t356 == t360) = false := beq_eq_false_iff_ne.mpr c20
         have c20b1 : (t356 != t360) = true := bne_iff_ne.mpr c20
         obtain rfl := Option.some.inj H
         have p352 : 0 ≤ (x32_1 : Int) := of_decide_eq_true (by (with_reducible assumption))
         have q352 : x32_1 < (y349.length : Int) := of_decide_eq_true (by (with_reducible assumption))
         obtain ⟨ad352, e352, hx352_0⟩ := Kd.at_int (Kd.R_reads' HO_30.out).2.2 x32_1 p352 q352
         cases e352
         replace p352 := eq_true p352
         replace q352 := eq_true q352
         have hcz27_0 := cz0_ BK345
         have hcz27_1 := cz1_ BK345
         have hfz27_0 := blk_frozen BK345.out 0
         have hfz27_1 := blk_frozen BK345.out 1
         go_wp2_with (first | ((with_reducible refine gate_callee (f := 9) rfl ?_); refine goesL_ (some 41) rfl rfl Try.func9 (by kernel_rfl) rfl #[.agg #[.int .i64 a0_0, .int .i64 a0_1], .int .i64 a1, .int .i64 a2, .int .i64 (rd y349 x32_1)] rfl (by (try simp only [List.map_toArray, List.map_cons, List.map_nil]); rfl) ?_; (with_reducible refine (noise_Hide.calls k1 a0_0 a0_1 a1 a2 (rd y349 x32_1) t353 t356 _ A16.out).mono ?_); rintro e w28 ⟨v354, rfl, ho0, hb⟩; refine ⟨_, rfl, ?_⟩; have HO355 := Aside0.mk (Kd.N_lower (Kd.N_mono (ok' := fun k_ => some k_ ≠ (.slice (some ad352) y349.length co12 : Value).ownBlock ∧ k_ ≠ gb345) ho0 (fun k_ hk_ => ⟨(Kd.fresh' (Kd.R_lt (by (with_reducible repeat (first | apply Kd.R_alloc | apply Kd.R_drewN | apply Kd.R_drew)); exact HO_30.out)) k_ hk_), (Kd.freshB (g := gb345) (o := .cells #[.int .i64 a0_0, .int .i64 a0_1] 23 (0, 0)) (by (with_reducible repeat (first | refine blk_drewN ?_ _ | refine blk_drew ?_ | refine blk_alloc ?_ _)); exact BK345.out) k_ hk_)⟩)) (below_size HB.out)); replace HO_30 := Aside0.mk (Kd.R_below (by (with_reducible repeat (first | apply Kd.R_alloc | apply Kd.R_drewN | apply Kd.R_drew)); exact HO_30.out) hb); replace BK345 := Aside0.mk (blk_below (g := gb345) (o := .cells #[.int .i64 a0_0, .int .i64 a0_1] 23 (0, 0)) (by (with_reducible repeat (first | refine blk_drewN ?_ _ | refine blk_drew ?_ | refine blk_alloc ?_ _)); exact BK345.out) hb); replace HB := Aside0.mk (below_step HB.out hb); (try clear hb); (try clear ho0); have hcz29_0 := cz0_ BK345; have hcz29_1 := cz1_ BK345; have hfz29_0 := blk_frozen BK345.out 0; have hfz29_1 := blk_frozen BK345.out 1) | ((with_reducible refine gate_callee (f := 13) rfl ?_); refine goesL_ (some 49) rfl rfl Try.func13 (by kernel_rfl) rfl #[.agg #[.int .i64 a0_0, .int .i64 a0_1], .int .i64 a1, .int .i64 a2, .int .i64 (rd y349 x32_1)] rfl (by (try simp only [List.map_toArray, List.map_cons, List.map_nil]); rfl) ?_; (with_reducible refine (hushref6_Hide.calls k1 a0_0 a0_1 a1 a2 (rd y349 x32_1) t357 t360 _ A17.out).mono ?_); rintro e w30 ⟨v358, rfl, ho0, hb⟩; refine ⟨_, rfl, ?_⟩; have HO359 := Aside0.mk (Kd.N_lower (Kd.N_mono (ok' := fun k_ => some k_ ≠ (.slice (some ad352) y349.length co12 : Value).ownBlock ∧ some k_ ≠ (v354 : Value).ownBlock ∧ k_ ≠ gb345) ho0 (fun k_ hk_ => ⟨(Kd.fresh' (Kd.R_lt (by (with_reducible repeat (first | apply Kd.R_alloc | apply Kd.R_drewN | apply Kd.R_drew)); exact HO_30.out)) k_ hk_), (Kd.fresh' (Kd.N_lt (by (with_reducible repeat (first | apply Kd.N_alloc | apply Kd.N_drewN | apply Kd.N_drew)); exact HO355.out)) k_ hk_), (Kd.freshB (g := gb345) (o := .cells #[.int .i64 a0_0, .int .i64 a0_1] 23 (0, 0)) (by (with_reducible repeat (first | refine blk_drewN ?_ _ | refine blk_drew ?_ | refine blk_alloc ?_ _)); exact BK345.out) k_ hk_)⟩)) (below_size HB.out)); replace HO_30 := Aside0.mk (Kd.R_below (by (with_reducible repeat (first | apply Kd.R_alloc | apply Kd.R_drewN | apply Kd.R_drew)); exact HO_30.out) hb); replace HO355 := Aside0.mk (Kd.N_elder' (by (with_reducible repeat (first | apply Kd.N_alloc | apply Kd.N_drewN | apply Kd.N_drew)); exact HO355.out) (Kd.N_base ho0) hb); replace BK345 := Aside0.mk (blk_below (g := gb345) (o := .cells #[.int .i64 a0_0, .int .i64 a0_1] 23 (0, 0)) (by (with_reducible repeat (first | refine blk_drewN ?_ _ | refine blk_drew ?_ | refine blk_alloc ?_ _)); exact BK345.out) hb); replace HB := Aside0.mk (below_step HB.out hb); (try clear hb); (try clear ho0); obtain ⟨Ao31, co31, eo31⟩ := Kd.N_slice HO355.out; subst eo31; obtain ⟨Ao32, co32, eo32⟩ := Kd.N_slice HO359.out; subst eo32) | ((with_reducible refine gate_callee (f := 10) rfl ?_); refine goesL_ (some 54) rfl rfl Try.func10 (by kernel_rfl) rfl #[.slice Ao31 t353.length co31, .slice Ao32 t357.length co32] rfl (by (try simp only [List.map_toArray, List.map_cons, List.map_nil]); rfl) ?_; (with_reducible refine (hushref2_Same.calls k1 _ _ t353 _ _ t357 true _ ?side1 ?side2 ?side3 ?side4 A18.out).mono ?_); (case side1 => repeat (exact (Kd.N_reads' HO355.out).2.2)); (case side2 => exact (Kd.N_reads' HO355.out).2.1); (case side3 => repeat (exact (Kd.N_reads' HO359.out).2.2)); (case side4 => exact (Kd.N_reads' HO359.out).2.1); rintro e w' ⟨rfl, ⟨nd, rfl⟩⟩; refine ⟨_, rfl, ?_⟩))
         go_ret
         exact ⟨rfl, by repeat (with_reducible first | exact HB.out | apply pw_below_drewN)⟩
       ·
        replace c19 := Bool.eq_false_iff.mpr c19
        subst c19
        rw [if_neg (show ¬ (false = true) by decide)] at H
        obtain rfl := Option.some.inj H
        have p352 : 0 ≤ (x32_1 : Int) := of_decide_eq_true (by (with_reducible assumption))
        have q352 : x32_1 < (y349.length : Int) := of_decide_eq_true (by (with_reducible assumption))
        obtain ⟨ad352, e352, hx352_0⟩ := Kd.at_int (Kd.R_reads' HO_30.out).2.2 x32_1 p352 q352
        cases e352
        replace p352 := eq_true p352
        replace q352 := eq_true q352
        have hcz33_0 := cz0_ BK345
        have hcz33_1 := cz1_ BK345
        have hfz33_0 := blk_frozen BK345.out 0
        have hfz33_1 := blk_frozen BK345.out 1
        go_wp2_with (first | ((with_reducible refine gate_callee (f := 9) rfl ?_); refine goesL_ (some 41) rfl rfl Try.func9 (by kernel_rfl) rfl #[.agg #[.int .i64 a0_0, .int .i64 a0_1], .int .i64 a1, .int .i64 a2, .int .i64 (rd y349 x32_1)] rfl (by (try simp only [List.map_toArray, List.map_cons, List.map_nil]); rfl) ?_; (with_reducible refine (noise_Hide.calls k1 a0_0 a0_1 a1 a2 (rd y349 x32_1) t353 t356 _ A16.out).mono ?_); rintro e w34 ⟨v354, rfl, ho0, hb⟩; refine ⟨_, rfl, ?_⟩; have HO355 := Aside0.mk (Kd.N_lower (Kd.N_mono (ok' := fun k_ => some k_ ≠ (.slice (some ad352) y349.length co12 : Value).ownBlock ∧ k_ ≠ gb345) ho0 (fun k_ hk_ => ⟨(Kd.fresh' (Kd.R_lt (by (with_reducible repeat (first | apply Kd.R_alloc | apply Kd.R_drewN | apply Kd.R_drew)); exact HO_30.out)) k_ hk_), (Kd.freshB (g := gb345) (o := .cells #[.int .i64 a0_0, .int .i64 a0_1] 23 (0, 0)) (by (with_reducible repeat (first | refine blk_drewN ?_ _ | refine blk_drew ?_ | refine blk_alloc ?_ _)); exact BK345.out) k_ hk_)⟩)) (below_size HB.out)); replace HO_30 := Aside0.mk (Kd.R_below (by (with_reducible repeat (first | apply Kd.R_alloc | apply Kd.R_drewN | apply Kd.R_drew)); exact HO_30.out) hb); replace BK345 := Aside0.mk (blk_below (g := gb345) (o := .cells #[.int .i64 a0_0, .int .i64 a0_1] 23 (0, 0)) (by (with_reducible repeat (first | refine blk_drewN ?_ _ | refine blk_drew ?_ | refine blk_alloc ?_ _)); exact BK345.out) hb); replace HB := Aside0.mk (below_step HB.out hb); (try clear hb); (try clear ho0); have hcz35_0 := cz0_ BK345; have hcz35_1 := cz1_ BK345; have hfz35_0 := blk_frozen BK345.out 0; have hfz35_1 := blk_frozen BK345.out 1) | ((with_reducible refine gate_callee (f := 13) rfl ?_); refine goesL_ (some 49) rfl rfl Try.func13 (by kernel_rfl) rfl #[.agg #[.int .i64 a0_0, .int .i64 a0_1], .int .i64 a1, .int .i64 a2, .int .i64 (rd y349 x32_1)] rfl (by (try simp only [List.map_toArray, List.map_cons, List.map_nil]); rfl) ?_; (with_reducible refine (hushref6_Hide.calls k1 a0_0 a0_1 a1 a2 (rd y349 x32_1) t357 t360 _ A17.out).mono ?_); rintro e w36 ⟨v358, rfl, ho0, hb⟩; refine ⟨_, rfl, ?_⟩; have HO359 := Aside0.mk (Kd.N_lower (Kd.N_mono (ok' := fun k_ => some k_ ≠ (.slice (some ad352) y349.length co12 : Value).ownBlock ∧ some k_ ≠ (v354 : Value).ownBlock ∧ k_ ≠ gb345) ho0 (fun k_ hk_ => ⟨(Kd.fresh' (Kd.R_lt (by (with_reducible repeat (first | apply Kd.R_alloc | apply Kd.R_drewN | apply Kd.R_drew)); exact HO_30.out)) k_ hk_), (Kd.fresh' (Kd.N_lt (by (with_reducible repeat (first | apply Kd.N_alloc | apply Kd.N_drewN | apply Kd.N_drew)); exact HO355.out)) k_ hk_), (Kd.freshB (g := gb345) (o := .cells #[.int .i64 a0_0, .int .i64 a0_1] 23 (0, 0)) (by (with_reducible repeat (first | refine blk_drewN ?_ _ | refine blk_drew ?_ | refine blk_alloc ?_ _)); exact BK345.out) k_ hk_)⟩)) (below_size HB.out)); replace HO_30 := Aside0.mk (Kd.R_below (by (with_reducible repeat (first | apply Kd.R_alloc | apply Kd.R_drewN | apply Kd.R_drew)); exact HO_30.out) hb); replace HO355 := Aside0.mk (Kd.N_elder' (by (with_reducible repeat (first | apply Kd.N_alloc | apply Kd.N_drewN | apply Kd.N_drew)); exact HO355.out) (Kd.N_base ho0) hb); replace BK345 := Aside0.mk (blk_below (g := gb345) (o := .cells #[.int .i64 a0_0, .int .i64 a0_1] 23 (0, 0)) (by (with_reducible repeat (first | refine blk_drewN ?_ _ | refine blk_drew ?_ | refine blk_alloc ?_ _)); exact BK345.out) hb); replace HB := Aside0.mk (below_step HB.out hb); (try clear hb); (try clear ho0); obtain ⟨Ao37, co37, eo37⟩ := Kd.N_slice HO355.out; subst eo37; obtain ⟨Ao38, co38, eo38⟩ := Kd.N_slice HO359.out; subst eo38) | ((with_reducible refine gate_callee (f := 10) rfl ?_); refine goesL_ (some 54) rfl rfl Try.func10 (by kernel_rfl) rfl #[.slice Ao37 t353.length co37, .slice Ao38 t357.length co38] rfl (by (try simp only [List.map_toArray, List.map_cons, List.map_nil]); rfl) ?_; (with_reducible refine (hushref2_Same.calls k1 _ _ t353 _ _ t357 false _ ?side1 ?side2 ?side3 ?side4 A18.out).mono ?_); (case side1 => repeat (exact (Kd.N_reads' HO355.out).2.2)); (case side2 => exact (Kd.N_reads' HO355.out).2.1); (case side3 => repeat (exact (Kd.N_reads' HO359.out).2.2)); (case side4 => exact (Kd.N_reads' HO359.out).2.1); rintro e w' ⟨rfl, ⟨nd, rfl⟩⟩; refine ⟨_, rfl, ?_⟩))
        go_ret
        exact ⟨rfl, by repeat (with_reducible first | exact HB.out | apply pw_below_drewN)⟩
      ·
       rw [if_neg c15] at H
       exact absurd H (by simp)
     ·
      rw [if_neg c14] at H
      exact absurd H (by simp)
    ·
     rw [if_neg c13] at H
     have c13b0 : decide (x32_1 < (y349.length : Int)) = false := decide_eq_false c13
     clear c13
     obtain ⟨⟨t362, t365⟩, A39, H⟩ := bnd_ H
     dsimp only at H
     obtain ⟨⟨t366, t369⟩, A40, H⟩ := bnd_ H
     dsimp only at H
     have HC41 := Aside0.mk H
     clear H
     have hcz42_0 := cz0_ BK345
     have hcz42_1 := cz1_ BK345
     have hfz42_0 := blk_frozen BK345.out 0
     have hfz42_1 := blk_frozen BK345.out 1
     go_upto_region 11 with (first | ((with_reducible refine gate_callee (f := 14) rfl ?_); refine goesL_ (some 67) rfl rfl Try.func14 (by kernel_rfl) rfl #[.agg #[.int .i64 a0_0, .int .i64 a0_1], .int .i64 a1, .int .i64 a2, .slice A3 l3.length c3] rfl (by (try simp only [List.map_toArray, List.map_cons, List.map_nil]); rfl) ?_; (with_reducible refine (noise_HideAll.calls k1 a0_0 a0_1 a1 a2 _ _ l3 t362 t365 _ ?side1 ?side2 A39.out).mono ?_); (case side1 => repeat (exact (Kd.C_below HR3.out HB.out))); (case side2 => exact HC3.out); rintro e w43 ⟨v363, rfl, ho0, hb⟩; refine ⟨_, rfl, ?_⟩; have HO364 := Aside0.mk (Kd.N_lower (Kd.N_mono (ok' := fun k_ => some k_ ≠ (.slice Ao12 y349.length co12 : Value).ownBlock ∧ k_ ≠ gb345) ho0 (fun k_ hk_ => ⟨(Kd.fresh' (Kd.R_lt (by (with_reducible repeat (first | apply Kd.R_alloc | apply Kd.R_drewN | apply Kd.R_drew)); exact HO_30.out)) k_ hk_), (Kd.freshB (g := gb345) (o := .cells #[.int .i64 a0_0, .int .i64 a0_1] 23 (0, 0)) (by (with_reducible repeat (first | refine blk_drewN ?_ _ | refine blk_drew ?_ | refine blk_alloc ?_ _)); exact BK345.out) k_ hk_)⟩)) (below_size HB.out)); replace HO_30 := Aside0.mk (Kd.R_below (by (with_reducible repeat (first | apply Kd.R_alloc | apply Kd.R_drewN | apply Kd.R_drew)); exact HO_30.out) hb); replace BK345 := Aside0.mk (blk_below (g := gb345) (o := .cells #[.int .i64 a0_0, .int .i64 a0_1] 23 (0, 0)) (by (with_reducible repeat (first | refine blk_drewN ?_ _ | refine blk_drew ?_ | refine blk_alloc ?_ _)); exact BK345.out) hb); replace HB := Aside0.mk (below_step HB.out hb); (try clear hb); (try clear ho0); have hcz44_0 := cz0_ BK345; have hcz44_1 := cz1_ BK345; have hfz44_0 := blk_frozen BK345.out 0; have hfz44_1 := blk_frozen BK345.out 1) | ((with_reducible refine gate_callee (f := 15) rfl ?_); refine goesL_ (some 75) rfl rfl Try.func15 (by kernel_rfl) rfl #[.agg #[.int .i64 a0_0, .int .i64 a0_1], .int .i64 a1, .int .i64 a2, .slice A3 l3.length c3] rfl (by (try simp only [List.map_toArray, List.map_cons, List.map_nil]); rfl) ?_; (with_reducible refine (hushref6_HideAll.calls k1 a0_0 a0_1 a1 a2 _ _ l3 t366 t369 _ ?side1 ?side2 A40.out).mono ?_); (case side1 => repeat (exact (Kd.C_below HR3.out HB.out))); (case side2 => exact HC3.out); rintro e w45 ⟨v367, rfl, ho0, hb⟩; refine ⟨_, rfl, ?_⟩; have HO368 := Aside0.mk (Kd.N_lower (Kd.N_mono (ok' := fun k_ => some k_ ≠ (.slice Ao12 y349.length co12 : Value).ownBlock ∧ some k_ ≠ (v363 : Value).ownBlock ∧ k_ ≠ gb345) ho0 (fun k_ hk_ => ⟨(Kd.fresh' (Kd.R_lt (by (with_reducible repeat (first | apply Kd.R_alloc | apply Kd.R_drewN | apply Kd.R_drew)); exact HO_30.out)) k_ hk_), (Kd.fresh' (Kd.N_lt (by (with_reducible repeat (first | apply Kd.N_alloc | apply Kd.N_drewN | apply Kd.N_drew)); exact HO364.out)) k_ hk_), (Kd.freshB (g := gb345) (o := .cells #[.int .i64 a0_0, .int .i64 a0_1] 23 (0, 0)) (by (with_reducible repeat (first | refine blk_drewN ?_ _ | refine blk_drew ?_ | refine blk_alloc ?_ _)); exact BK345.out) k_ hk_)⟩)) (below_size HB.out)); replace HO_30 := Aside0.mk (Kd.R_below (by (with_reducible repeat (first | apply Kd.R_alloc | apply Kd.R_drewN | apply Kd.R_drew)); exact HO_30.out) hb); replace HO364 := Aside0.mk (Kd.N_elder' (by (with_reducible repeat (first | apply Kd.N_alloc | apply Kd.N_drewN | apply Kd.N_drew)); exact HO364.out) (Kd.N_base ho0) hb); replace BK345 := Aside0.mk (blk_below (g := gb345) (o := .cells #[.int .i64 a0_0, .int .i64 a0_1] 23 (0, 0)) (by (with_reducible repeat (first | refine blk_drewN ?_ _ | refine blk_drew ?_ | refine blk_alloc ?_ _)); exact BK345.out) hb); replace HB := Aside0.mk (below_step HB.out hb); (try clear hb); (try clear ho0)))
     go_cut [86] (fun v86 wc => ∃ (kq : Nat) (x86_40 : Bool), v86 = .bool x86_40 ∧ Aside0 (hushlaw6_NoiseHides.j1 kq a4 a5 x86_40 a0_0 a0_1 = some r) ∧ Aside0 (kq ≤ k1) ∧ Aside0 (wc.heap[gb345]? = some (.cells #[.int .i64 a0_0, .int .i64 a0_1] 23 (0, 0))) ∧ Aside0 (Below w.heap.size w wc))
     case first =>
      have H := HC41.out
      clear HC41
      obtain ⟨t370, A46, H⟩ := bnd_ H
      by_cases c47 : t370 = true
      ·
       subst c47
       rw [if_pos rfl] at H
       have H' := Aside0.mk H
       clear H
       obtain ⟨Ao48, co48, eo48⟩ := Kd.N_slice HO364.out
       subst eo48
       obtain ⟨Ao49, co49, eo49⟩ := Kd.N_slice HO368.out
       subst eo49
       go_wp2_with (((with_reducible refine gate_callee (f := 16) rfl ?_); refine goesL_ (some 80) rfl rfl Try.func16 (by kernel_rfl) rfl #[.slice Ao48 t362.length co48, .slice Ao49 t366.length co49] rfl (by (try simp only [List.map_toArray, List.map_cons, List.map_nil]); rfl) ?_; (with_reducible refine (hushref6_SameDists.calls k1 _ _ t362 _ _ t366 true _ ?side1 ?side2 ?side3 ?side4 A46.out).mono ?_); (case side1 => repeat (exact (Kd.N_reads' HO364.out).2.2)); (case side2 => exact (Kd.N_reads' HO364.out).2.1); (case side3 => repeat (exact (Kd.N_reads' HO368.out).2.2)); (case side4 => exact (Kd.N_reads' HO368.out).2.1); rintro e w' ⟨rfl, ⟨nd, rfl⟩⟩; refine ⟨_, rfl, ?_⟩))
       go_meet
       case rel => exact ⟨_, ((t365 != t369)), rfl, H', ⟨by have := HK1.out; omega⟩, ⟨by (with_reducible repeat (refine blk_drewN ?_ _)); exact BK345.out⟩, ⟨by repeat (with_reducible first | exact HB.out | apply pw_below_drewN)⟩⟩
      ·
       replace c47 := Bool.eq_false_iff.mpr c47
       subst c47
       rw [if_neg (show ¬ (false = true) by decide)] at H
       have H' := Aside0.mk H
       clear H
       obtain ⟨Ao50, co50, eo50⟩ := Kd.N_slice HO364.out
       subst eo50
       obtain ⟨Ao51, co51, eo51⟩ := Kd.N_slice HO368.out
       subst eo51
       go_wp2_with (((with_reducible refine gate_callee (f := 16) rfl ?_); refine goesL_ (some 80) rfl rfl Try.func16 (by kernel_rfl) rfl #[.slice Ao50 t362.length co50, .slice Ao51 t366.length co51] rfl (by (try simp only [List.map_toArray, List.map_cons, List.map_nil]); rfl) ?_; (with_reducible refine (hushref6_SameDists.calls k1 _ _ t362 _ _ t366 false _ ?side1 ?side2 ?side3 ?side4 A46.out).mono ?_); (case side1 => repeat (exact (Kd.N_reads' HO364.out).2.2)); (case side2 => exact (Kd.N_reads' HO364.out).2.1); (case side3 => repeat (exact (Kd.N_reads' HO368.out).2.2)); (case side4 => exact (Kd.N_reads' HO368.out).2.1); rintro e w' ⟨rfl, ⟨nd, rfl⟩⟩; refine ⟨_, rfl, ?_⟩))
       go_meet
       case rel => exact ⟨_, (true), rfl, H', ⟨by have := HK1.out; omega⟩, ⟨by (with_reducible repeat (refine blk_drewN ?_ _)); exact BK345.out⟩, ⟨by repeat (with_reducible first | exact HB.out | apply pw_below_drewN)⟩⟩
     case rest =>
      clear HC41
      try clear c13b0
      try clear hcz42_0
      try clear hcz42_1
      try clear hcz44_0
      try clear hcz44_1
      try clear hfz42_0
      try clear hfz42_1
      try clear hfz44_0
      try clear hfz44_1
      obtain ⟨kq, x86_40, rfl, HA, HJ40, BK345, HB⟩ := hcut
      cases kq with
      | zero => exact absurd HA.out (by simp [hushlaw6_NoiseHides.j1])
      | succ kj40 =>
       have H := HA.out
       clear HA
       simp only [hushlaw6_NoiseHides.j1] at H
       by_cases c52 : x86_40 = true
       ·
        subst c52
        rw [if_pos rfl] at H
        obtain rfl := Option.some.inj H
        go_wp2
        go_ret
        exact ⟨rfl, HB.out⟩
       ·
        replace c52 := Bool.eq_false_iff.mpr c52
        subst c52
        rw [if_neg (show ¬ (false = true) by decide)] at H
        obtain ⟨⟨t371, t372, t373⟩, A53, H⟩ := bnd_ H
        dsimp only at H
        obtain ⟨⟨t375, t376, t377⟩, A54, H⟩ := bnd_ H
        dsimp only at H
        have HC55 := Aside0.mk H
        clear H
        have hcz56_0 := cz0_ BK345
        have hcz56_1 := cz1_ BK345
        have hfz56_0 := blk_frozen BK345.out 0
        have hfz56_1 := blk_frozen BK345.out 1
        go_upto_region 15 with (first | ((with_reducible refine gate_callee (f := 17) rfl ?_); refine goesL_ (some 90) rfl rfl Try.func17 (by kernel_rfl) rfl #[.agg #[.int .i64 a0_0, .int .i64 a0_1], .int .i64 a4] rfl (by (try simp only [List.map_toArray, List.map_cons, List.map_nil]); rfl) ?_; (with_reducible refine (noise_Lost.calls kj40 a0_0 a0_1 a4 t371 t372 t373 _ A53.out).mono ?_); rintro e w57 ⟨rfl, hb⟩; refine ⟨_, rfl, ?_⟩; replace BK345 := Aside0.mk (blk_below (g := gb345) (o := .cells #[.int .i64 a0_0, .int .i64 a0_1] 23 (0, 0)) (by (with_reducible repeat (first | refine blk_drewN ?_ _ | refine blk_drew ?_ | refine blk_alloc ?_ _)); exact BK345.out) hb); replace HB := Aside0.mk (below_step HB.out hb); (try clear hb)) | ((with_reducible refine gate_dst (N := 23) rfl ?_); refine box_event ?hg (N := 23) ?hd (cs := #[.int .i64 0, .int .i64 0]) (t := 23) ?hr ?_; (case hd | hg => rfl); (case hr => go_simp; done); intro gb374 hg w58 hbox hb; have BK374 := Aside0.mk (hbox); have GW374 := gw_ HB.out hg; have GE374 := gw_ HB.out hg; replace HB := Aside0.mk (below_step HB.out hb); have NB345_374 := Aside0.mk ((by rw [hg]; exact Nat.ne_of_lt (blk_lt (g := gb345) (o := .cells #[.int .i64 a0_0, .int .i64 a0_1] 23 (0, 0)) (by (with_reducible repeat (first | refine blk_drewN ?_ _ | refine blk_drew ?_ | refine blk_alloc ?_ _)); exact BK345.out)) : gb345 ≠ gb374)); have NB374_345 := Aside0.mk ((by rw [hg]; exact Nat.ne_of_gt (blk_lt (g := gb345) (o := .cells #[.int .i64 a0_0, .int .i64 a0_1] 23 (0, 0)) (by (with_reducible repeat (first | refine blk_drewN ?_ _ | refine blk_drew ?_ | refine blk_alloc ?_ _)); exact BK345.out)) : gb374 ≠ gb345)); replace BK345 := Aside0.mk (blk_below (g := gb345) (o := .cells #[.int .i64 a0_0, .int .i64 a0_1] 23 (0, 0)) (by (with_reducible repeat (first | refine blk_drewN ?_ _ | refine blk_drew ?_ | refine blk_alloc ?_ _)); exact BK345.out) hb); clear hb hbox hg; have hnb59 := NB374_345.out; have hnc59 := NB345_374.out; have hcz60_0 := cz0_ BK374; have hcz60_1 := cz1_ BK374; have hfz60_0 := blk_frozen BK374.out 0; have hfz60_1 := blk_frozen BK374.out 1; have hcz61_0 := cz0_ BK345; have hcz61_1 := cz1_ BK345; have hfz61_0 := blk_frozen BK345.out 0; have hfz61_1 := blk_frozen BK345.out 1) | ((with_reducible refine gate_callee (f := 18) rfl ?_); refine goesL_ (some 96) rfl rfl Try.func18 (by kernel_rfl) rfl #[.agg #[.int .i64 a0_0, .int .i64 a0_1], .int .i64 a4] rfl (by (try simp only [List.map_toArray, List.map_cons, List.map_nil]); rfl) ?_; (with_reducible refine (hushref6_Lost.calls kj40 a0_0 a0_1 a4 t375 t376 t377 _ A54.out).mono ?_); rintro e w62 ⟨rfl, hb⟩; refine ⟨_, rfl, ?_⟩; replace BK345 := Aside0.mk (blk_below (g := gb345) (o := .cells #[.int .i64 a0_0, .int .i64 a0_1] 23 (0, 0)) (by (with_reducible repeat (first | refine blk_drewN ?_ _ | refine blk_drew ?_ | refine blk_alloc ?_ _)); refine blk_far ?_ NB345_374.out _; (with_reducible repeat (first | refine blk_drewN ?_ _ | refine blk_drew ?_ | refine blk_alloc ?_ _)); refine blk_far ?_ NB345_374.out _; (with_reducible repeat (first | refine blk_drewN ?_ _ | refine blk_drew ?_ | refine blk_alloc ?_ _)); exact BK345.out) hb); replace BK374 := Aside0.mk (blk_below (g := gb374) (o := .cells #[.int .i64 t371, .int .i64 t372] 23 (0, 0)) (by (with_reducible repeat (first | refine blk_drewN ?_ _ | refine blk_drew ?_ | refine blk_alloc ?_ _)); refine blk_put (cs := #[.int .i64 t371, .int .i64 0]) ?_ 1 _ rfl; (with_reducible repeat (first | refine blk_drewN ?_ _ | refine blk_drew ?_ | refine blk_alloc ?_ _)); refine blk_put (cs := #[.int .i64 0, .int .i64 0]) ?_ 0 _ rfl; (with_reducible repeat (first | refine blk_drewN ?_ _ | refine blk_drew ?_ | refine blk_alloc ?_ _)); exact BK374.out) hb); replace HB := Aside0.mk (below_step (by repeat (with_reducible first | exact HB.out | refine below_set ?_ GE374.out)) hb); (try clear hb)) | ((with_reducible refine gate_dst (N := 24) rfl ?_); refine box_event ?hg (N := 24) ?hd (cs := #[.int .i64 0, .int .i64 0]) (t := 23) ?hr ?_; (case hd | hg => rfl); (case hr => go_simp; done); intro gb378 hg w63 hbox hb; have BK378 := Aside0.mk (hbox); have GW378 := gw_ HB.out hg; have GE378 := gw_ HB.out hg; replace HB := Aside0.mk (below_step HB.out hb); have NB345_378 := Aside0.mk ((by rw [hg]; exact Nat.ne_of_lt (blk_lt (g := gb345) (o := .cells #[.int .i64 a0_0, .int .i64 a0_1] 23 (0, 0)) (by (with_reducible repeat (first | refine blk_drewN ?_ _ | refine blk_drew ?_ | refine blk_alloc ?_ _)); exact BK345.out)) : gb345 ≠ gb378)); have NB378_345 := Aside0.mk ((by rw [hg]; exact Nat.ne_of_gt (blk_lt (g := gb345) (o := .cells #[.int .i64 a0_0, .int .i64 a0_1] 23 (0, 0)) (by (with_reducible repeat (first | refine blk_drewN ?_ _ | refine blk_drew ?_ | refine blk_alloc ?_ _)); exact BK345.out)) : gb378 ≠ gb345)); replace BK345 := Aside0.mk (blk_below (g := gb345) (o := .cells #[.int .i64 a0_0, .int .i64 a0_1] 23 (0, 0)) (by (with_reducible repeat (first | refine blk_drewN ?_ _ | refine blk_drew ?_ | refine blk_alloc ?_ _)); exact BK345.out) hb); have NB374_378 := Aside0.mk ((by rw [hg]; exact Nat.ne_of_lt (blk_lt (g := gb374) (o := .cells #[.int .i64 t371, .int .i64 t372] 23 (0, 0)) (by (with_reducible repeat (first | refine blk_drewN ?_ _ | refine blk_drew ?_ | refine blk_alloc ?_ _)); exact BK374.out)) : gb374 ≠ gb378)); have NB378_374 := Aside0.mk ((by rw [hg]; exact Nat.ne_of_gt (blk_lt (g := gb374) (o := .cells #[.int .i64 t371, .int .i64 t372] 23 (0, 0)) (by (with_reducible repeat (first | refine blk_drewN ?_ _ | refine blk_drew ?_ | refine blk_alloc ?_ _)); exact BK374.out)) : gb378 ≠ gb374)); replace BK374 := Aside0.mk (blk_below (g := gb374) (o := .cells #[.int .i64 t371, .int .i64 t372] 23 (0, 0)) (by (with_reducible repeat (first | refine blk_drewN ?_ _ | refine blk_drew ?_ | refine blk_alloc ?_ _)); exact BK374.out) hb); clear hb hbox hg; have hnb64 := NB378_345.out; have hnc64 := NB345_378.out; have hnb65 := NB378_374.out; have hnc65 := NB374_378.out; have hcz66_0 := cz0_ BK378; have hcz66_1 := cz1_ BK378; have hfz66_0 := blk_frozen BK378.out 0; have hfz66_1 := blk_frozen BK378.out 1))
        go_cut [106] (fun v106 wc => ∃ (kq : Nat) (x106_54 : Bool), v106 = .bool x106_54 ∧ Aside0 (hushlaw6_NoiseHides.j2 kq a4 a5 x106_54 a0_0 a0_1 = some r) ∧ Aside0 (kq ≤ kj40) ∧ Aside0 (wc.heap[gb345]? = some (.cells #[.int .i64 a0_0, .int .i64 a0_1] 23 (0, 0))) ∧ Aside0 (wc.heap[gb374]? = some (.cells #[.int .i64 t371, .int .i64 t372] 23 (0, 0))) ∧ Aside0 (wc.heap[gb378]? = some (.cells #[.int .i64 t375, .int .i64 t376] 23 (0, 0))) ∧ Aside0 (Below w.heap.size w wc))
        case first =>
         have H := HC55.out
         clear HC55
         by_cases c67 : (!(t371 == t375) || (!(t372 == t376))) = true
         ·
          rw [if_pos c67] at H
          have c67b0 : (!(t371 == t375) || (!(t372 == t376))) = true := c67
          clear c67
          have H' := Aside0.mk H
          clear H
          have hnb68 := NB374_345.out
          have hnc68 := NB345_374.out
          have hnb69 := NB374_378.out
          have hnc69 := NB378_374.out
          have hcz70_0 := cz0_ BK374
          have hcz70_1 := cz1_ BK374
          have hfz70_0 := blk_frozen BK374.out 0
          have hfz70_1 := blk_frozen BK374.out 1
          have hnb71 := NB378_345.out
          have hnc71 := NB345_378.out
          have hcz72_0 := cz0_ BK378
          have hcz72_1 := cz1_ BK378
          have hfz72_0 := blk_frozen BK378.out 0
          have hfz72_1 := blk_frozen BK378.out 1
          go_wp2
          go_meet
          case rel => exact ⟨_, (true), rfl, H', ⟨by have := HK1.out; have := HJ40.out; omega⟩, ⟨by (with_reducible repeat (first | refine blk_drewN ?_ _ | refine blk_drew ?_ | refine blk_alloc ?_ _)); refine blk_far ?_ NB345_378.out _; (with_reducible repeat (first | refine blk_drewN ?_ _ | refine blk_drew ?_ | refine blk_alloc ?_ _)); refine blk_far ?_ NB345_378.out _; (with_reducible repeat (first | refine blk_drewN ?_ _ | refine blk_drew ?_ | refine blk_alloc ?_ _)); exact BK345.out⟩, ⟨by (with_reducible repeat (first | refine blk_drewN ?_ _ | refine blk_drew ?_ | refine blk_alloc ?_ _)); refine blk_far ?_ NB374_378.out _; (with_reducible repeat (first | refine blk_drewN ?_ _ | refine blk_drew ?_ | refine blk_alloc ?_ _)); refine blk_far ?_ NB374_378.out _; (with_reducible repeat (first | refine blk_drewN ?_ _ | refine blk_drew ?_ | refine blk_alloc ?_ _)); exact BK374.out⟩, ⟨by (with_reducible repeat (first | refine blk_drewN ?_ _ | refine blk_drew ?_ | refine blk_alloc ?_ _)); refine blk_put (cs := #[.int .i64 t375, .int .i64 0]) ?_ 1 _ rfl; (with_reducible repeat (first | refine blk_drewN ?_ _ | refine blk_drew ?_ | refine blk_alloc ?_ _)); refine blk_put (cs := #[.int .i64 0, .int .i64 0]) ?_ 0 _ rfl; (with_reducible repeat (first | refine blk_drewN ?_ _ | refine blk_drew ?_ | refine blk_alloc ?_ _)); exact BK378.out⟩, ⟨by repeat (with_reducible first | exact HB.out | refine below_set ?_ GE378.out)⟩⟩
         ·
          rw [if_neg c67] at H
          have c67b0 : (!(t371 == t375) || (!(t372 == t376))) = false := by simpa using c67
          clear c67
          have H' := Aside0.mk H
          clear H
          have hnb73 := NB374_345.out
          have hnc73 := NB345_374.out
          have hnb74 := NB374_378.out
          have hnc74 := NB378_374.out
          have hcz75_0 := cz0_ BK374
          have hcz75_1 := cz1_ BK374
          have hfz75_0 := blk_frozen BK374.out 0
          have hfz75_1 := blk_frozen BK374.out 1
          have hnb76 := NB378_345.out
          have hnc76 := NB345_378.out
          have hcz77_0 := cz0_ BK378
          have hcz77_1 := cz1_ BK378
          have hfz77_0 := blk_frozen BK378.out 0
          have hfz77_1 := blk_frozen BK378.out 1
          go_wp2
          go_meet
          case rel => exact ⟨_, ((t373 != t377)), rfl, H', ⟨by have := HK1.out; have := HJ40.out; omega⟩, ⟨by (with_reducible repeat (first | refine blk_drewN ?_ _ | refine blk_drew ?_ | refine blk_alloc ?_ _)); refine blk_far ?_ NB345_378.out _; (with_reducible repeat (first | refine blk_drewN ?_ _ | refine blk_drew ?_ | refine blk_alloc ?_ _)); refine blk_far ?_ NB345_378.out _; (with_reducible repeat (first | refine blk_drewN ?_ _ | refine blk_drew ?_ | refine blk_alloc ?_ _)); exact BK345.out⟩, ⟨by (with_reducible repeat (first | refine blk_drewN ?_ _ | refine blk_drew ?_ | refine blk_alloc ?_ _)); refine blk_far ?_ NB374_378.out _; (with_reducible repeat (first | refine blk_drewN ?_ _ | refine blk_drew ?_ | refine blk_alloc ?_ _)); refine blk_far ?_ NB374_378.out _; (with_reducible repeat (first | refine blk_drewN ?_ _ | refine blk_drew ?_ | refine blk_alloc ?_ _)); exact BK374.out⟩, ⟨by (with_reducible repeat (first | refine blk_drewN ?_ _ | refine blk_drew ?_ | refine blk_alloc ?_ _)); refine blk_put (cs := #[.int .i64 t375, .int .i64 0]) ?_ 1 _ rfl; (with_reducible repeat (first | refine blk_drewN ?_ _ | refine blk_drew ?_ | refine blk_alloc ?_ _)); refine blk_put (cs := #[.int .i64 0, .int .i64 0]) ?_ 0 _ rfl; (with_reducible repeat (first | refine blk_drewN ?_ _ | refine blk_drew ?_ | refine blk_alloc ?_ _)); exact BK378.out⟩, ⟨by repeat (with_reducible first | exact HB.out | refine below_set ?_ GE378.out)⟩⟩
        case rest =>
         clear HC55
         try clear hcz56_0
         try clear hcz56_1
         try clear hcz60_0
         try clear hcz60_1
         try clear hcz61_0
         try clear hcz61_1
         try clear hcz66_0
         try clear hcz66_1
         try clear hfz56_0
         try clear hfz56_1
         try clear hfz60_0
         try clear hfz60_1
         try clear hfz61_0
         try clear hfz61_1
         try clear hfz66_0
         try clear hfz66_1
         obtain ⟨kq, x106_54, rfl, HA, HJ54, BK345, BK374, BK378, HB⟩ := hcut
         cases kq with
         | zero => exact absurd HA.out (by simp [hushlaw6_NoiseHides.j2])
         | succ kj54 =>
          have H := HA.out
          clear HA
          simp only [hushlaw6_NoiseHides.j2] at H
          by_cases c78 : x106_54 = true
          ·
           subst c78
           rw [if_pos rfl] at H
           obtain rfl := Option.some.inj H
           go_wp2
           go_ret
           exact ⟨rfl, HB.out⟩
          ·
           replace c78 := Bool.eq_false_iff.mpr c78
           subst c78
           rw [if_neg (show ¬ (false = true) by decide)] at H
           obtain ⟨⟨t379, t382⟩, A79, H⟩ := bnd_ H
           dsimp only at H
           obtain ⟨⟨t383, t386⟩, A80, H⟩ := bnd_ H
           dsimp only at H
           obtain ⟨t387, A81, H⟩ := bnd_ H
           by_cases c82 : t387 = true
           ·
            subst c82
            rw [if_pos rfl] at H
            obtain rfl := Option.some.inj H
            have hnb83 := NB345_374.out
            have hnc83 := NB374_345.out
            have hnb84 := NB345_378.out
            have hnc84 := NB378_345.out
            have hcz85_0 := cz0_ BK345
            have hcz85_1 := cz1_ BK345
            have hfz85_0 := blk_frozen BK345.out 0
            have hfz85_1 := blk_frozen BK345.out 1
            go_wp2_with (first | ((with_reducible refine gate_callee (f := 19) rfl ?_); refine goesL_ (some 111) rfl rfl Try.func19 (by kernel_rfl) rfl #[.agg #[.int .i64 a0_0, .int .i64 a0_1], .int .i64 a4, .int .i64 a5] rfl (by (try simp only [List.map_toArray, List.map_cons, List.map_nil]); rfl) ?_; (with_reducible refine (noise_Respond.calls kj54 a0_0 a0_1 a4 a5 t379 t382 _ A79.out).mono ?_); rintro e w86 ⟨v380, rfl, ho0, hb⟩; refine ⟨_, rfl, ?_⟩; have HO381 := Aside0.mk (Kd.N_lower (Kd.N_mono (ok' := fun k_ => k_ ≠ gb345 ∧ k_ ≠ gb374 ∧ k_ ≠ gb378) ho0 (fun k_ hk_ => ⟨(Kd.freshB (g := gb345) (o := .cells #[.int .i64 a0_0, .int .i64 a0_1] 23 (0, 0)) (by (with_reducible repeat (first | refine blk_drewN ?_ _ | refine blk_drew ?_ | refine blk_alloc ?_ _)); exact BK345.out) k_ hk_), (Kd.freshB (g := gb374) (o := .cells #[.int .i64 t371, .int .i64 t372] 23 (0, 0)) (by (with_reducible repeat (first | refine blk_drewN ?_ _ | refine blk_drew ?_ | refine blk_alloc ?_ _)); exact BK374.out) k_ hk_), (Kd.freshB (g := gb378) (o := .cells #[.int .i64 t375, .int .i64 t376] 23 (0, 0)) (by (with_reducible repeat (first | refine blk_drewN ?_ _ | refine blk_drew ?_ | refine blk_alloc ?_ _)); exact BK378.out) k_ hk_)⟩)) (below_size HB.out)); replace BK345 := Aside0.mk (blk_below (g := gb345) (o := .cells #[.int .i64 a0_0, .int .i64 a0_1] 23 (0, 0)) (by (with_reducible repeat (first | refine blk_drewN ?_ _ | refine blk_drew ?_ | refine blk_alloc ?_ _)); exact BK345.out) hb); replace BK374 := Aside0.mk (blk_below (g := gb374) (o := .cells #[.int .i64 t371, .int .i64 t372] 23 (0, 0)) (by (with_reducible repeat (first | refine blk_drewN ?_ _ | refine blk_drew ?_ | refine blk_alloc ?_ _)); exact BK374.out) hb); replace BK378 := Aside0.mk (blk_below (g := gb378) (o := .cells #[.int .i64 t375, .int .i64 t376] 23 (0, 0)) (by (with_reducible repeat (first | refine blk_drewN ?_ _ | refine blk_drew ?_ | refine blk_alloc ?_ _)); exact BK378.out) hb); replace HB := Aside0.mk (below_step HB.out hb); (try clear hb); (try clear ho0); have hcz87_0 := cz0_ BK345; have hcz87_1 := cz1_ BK345; have hfz87_0 := blk_frozen BK345.out 0; have hfz87_1 := blk_frozen BK345.out 1) | ((with_reducible refine gate_callee (f := 20) rfl ?_); refine goesL_ (some 118) rfl rfl Try.func20 (by kernel_rfl) rfl #[.agg #[.int .i64 a0_0, .int .i64 a0_1], .int .i64 a4, .int .i64 a5] rfl (by (try simp only [List.map_toArray, List.map_cons, List.map_nil]); rfl) ?_; (with_reducible refine (hushref6_Respond.calls kj54 a0_0 a0_1 a4 a5 t383 t386 _ A80.out).mono ?_); rintro e w88 ⟨v384, rfl, ho0, hb⟩; refine ⟨_, rfl, ?_⟩; have HO385 := Aside0.mk (Kd.N_lower (Kd.N_mono (ok' := fun k_ => some k_ ≠ (v380 : Value).ownBlock ∧ k_ ≠ gb345 ∧ k_ ≠ gb374 ∧ k_ ≠ gb378) ho0 (fun k_ hk_ => ⟨(Kd.fresh' (Kd.N_lt (by (with_reducible repeat (first | apply Kd.N_alloc | apply Kd.N_drewN | apply Kd.N_drew)); exact HO381.out)) k_ hk_), (Kd.freshB (g := gb345) (o := .cells #[.int .i64 a0_0, .int .i64 a0_1] 23 (0, 0)) (by (with_reducible repeat (first | refine blk_drewN ?_ _ | refine blk_drew ?_ | refine blk_alloc ?_ _)); exact BK345.out) k_ hk_), (Kd.freshB (g := gb374) (o := .cells #[.int .i64 t371, .int .i64 t372] 23 (0, 0)) (by (with_reducible repeat (first | refine blk_drewN ?_ _ | refine blk_drew ?_ | refine blk_alloc ?_ _)); exact BK374.out) k_ hk_), (Kd.freshB (g := gb378) (o := .cells #[.int .i64 t375, .int .i64 t376] 23 (0, 0)) (by (with_reducible repeat (first | refine blk_drewN ?_ _ | refine blk_drew ?_ | refine blk_alloc ?_ _)); exact BK378.out) k_ hk_)⟩)) (below_size HB.out)); replace HO381 := Aside0.mk (Kd.N_elder' (by (with_reducible repeat (first | apply Kd.N_alloc | apply Kd.N_drewN | apply Kd.N_drew)); exact HO381.out) (Kd.N_base ho0) hb); replace BK345 := Aside0.mk (blk_below (g := gb345) (o := .cells #[.int .i64 a0_0, .int .i64 a0_1] 23 (0, 0)) (by (with_reducible repeat (first | refine blk_drewN ?_ _ | refine blk_drew ?_ | refine blk_alloc ?_ _)); exact BK345.out) hb); replace BK374 := Aside0.mk (blk_below (g := gb374) (o := .cells #[.int .i64 t371, .int .i64 t372] 23 (0, 0)) (by (with_reducible repeat (first | refine blk_drewN ?_ _ | refine blk_drew ?_ | refine blk_alloc ?_ _)); exact BK374.out) hb); replace BK378 := Aside0.mk (blk_below (g := gb378) (o := .cells #[.int .i64 t375, .int .i64 t376] 23 (0, 0)) (by (with_reducible repeat (first | refine blk_drewN ?_ _ | refine blk_drew ?_ | refine blk_alloc ?_ _)); exact BK378.out) hb); replace HB := Aside0.mk (below_step HB.out hb); (try clear hb); (try clear ho0); obtain ⟨Ao89, co89, eo89⟩ := Kd.N_slice HO381.out; subst eo89; obtain ⟨Ao90, co90, eo90⟩ := Kd.N_slice HO385.out; subst eo90) | ((with_reducible refine gate_callee (f := 10) rfl ?_); refine goesL_ (some 123) rfl rfl Try.func10 (by kernel_rfl) rfl #[.slice Ao89 t379.length co89, .slice Ao90 t383.length co90] rfl (by (try simp only [List.map_toArray, List.map_cons, List.map_nil]); rfl) ?_; (with_reducible refine (hushref2_Same.calls kj54 _ _ t379 _ _ t383 true _ ?side1 ?side2 ?side3 ?side4 A81.out).mono ?_); (case side1 => repeat (exact (Kd.N_reads' HO381.out).2.2)); (case side2 => exact (Kd.N_reads' HO381.out).2.1); (case side3 => repeat (exact (Kd.N_reads' HO385.out).2.2)); (case side4 => exact (Kd.N_reads' HO385.out).2.1); rintro e w' ⟨rfl, ⟨nd, rfl⟩⟩; refine ⟨_, rfl, ?_⟩))
            go_ret
            exact ⟨rfl, by repeat (with_reducible first | exact HB.out | apply pw_below_drewN)⟩
           ·
            replace c82 := Bool.eq_false_iff.mpr c82
            subst c82
            rw [if_neg (show ¬ (false = true) by decide)] at H
            obtain rfl := Option.some.inj H
            have hnb91 := NB345_374.out
            have hnc91 := NB374_345.out
            have hnb92 := NB345_378.out
            have hnc92 := NB378_345.out
            have hcz93_0 := cz0_ BK345
            have hcz93_1 := cz1_ BK345
            have hfz93_0 := blk_frozen BK345.out 0
            have hfz93_1 := blk_frozen BK345.out 1
            go_wp2_with (first | ((with_reducible refine gate_callee (f := 19) rfl ?_); refine goesL_ (some 111) rfl rfl Try.func19 (by kernel_rfl) rfl #[.agg #[.int .i64 a0_0, .int .i64 a0_1], .int .i64 a4, .int .i64 a5] rfl (by (try simp only [List.map_toArray, List.map_cons, List.map_nil]); rfl) ?_; (with_reducible refine (noise_Respond.calls kj54 a0_0 a0_1 a4 a5 t379 t382 _ A79.out).mono ?_); rintro e w94 ⟨v380, rfl, ho0, hb⟩; refine ⟨_, rfl, ?_⟩; have HO381 := Aside0.mk (Kd.N_lower (Kd.N_mono (ok' := fun k_ => k_ ≠ gb345 ∧ k_ ≠ gb374 ∧ k_ ≠ gb378) ho0 (fun k_ hk_ => ⟨(Kd.freshB (g := gb345) (o := .cells #[.int .i64 a0_0, .int .i64 a0_1] 23 (0, 0)) (by (with_reducible repeat (first | refine blk_drewN ?_ _ | refine blk_drew ?_ | refine blk_alloc ?_ _)); exact BK345.out) k_ hk_), (Kd.freshB (g := gb374) (o := .cells #[.int .i64 t371, .int .i64 t372] 23 (0, 0)) (by (with_reducible repeat (first | refine blk_drewN ?_ _ | refine blk_drew ?_ | refine blk_alloc ?_ _)); exact BK374.out) k_ hk_), (Kd.freshB (g := gb378) (o := .cells #[.int .i64 t375, .int .i64 t376] 23 (0, 0)) (by (with_reducible repeat (first | refine blk_drewN ?_ _ | refine blk_drew ?_ | refine blk_alloc ?_ _)); exact BK378.out) k_ hk_)⟩)) (below_size HB.out)); replace BK345 := Aside0.mk (blk_below (g := gb345) (o := .cells #[.int .i64 a0_0, .int .i64 a0_1] 23 (0, 0)) (by (with_reducible repeat (first | refine blk_drewN ?_ _ | refine blk_drew ?_ | refine blk_alloc ?_ _)); exact BK345.out) hb); replace BK374 := Aside0.mk (blk_below (g := gb374) (o := .cells #[.int .i64 t371, .int .i64 t372] 23 (0, 0)) (by (with_reducible repeat (first | refine blk_drewN ?_ _ | refine blk_drew ?_ | refine blk_alloc ?_ _)); exact BK374.out) hb); replace BK378 := Aside0.mk (blk_below (g := gb378) (o := .cells #[.int .i64 t375, .int .i64 t376] 23 (0, 0)) (by (with_reducible repeat (first | refine blk_drewN ?_ _ | refine blk_drew ?_ | refine blk_alloc ?_ _)); exact BK378.out) hb); replace HB := Aside0.mk (below_step HB.out hb); (try clear hb); (try clear ho0); have hcz95_0 := cz0_ BK345; have hcz95_1 := cz1_ BK345; have hfz95_0 := blk_frozen BK345.out 0; have hfz95_1 := blk_frozen BK345.out 1) | ((with_reducible refine gate_callee (f := 20) rfl ?_); refine goesL_ (some 118) rfl rfl Try.func20 (by kernel_rfl) rfl #[.agg #[.int .i64 a0_0, .int .i64 a0_1], .int .i64 a4, .int .i64 a5] rfl (by (try simp only [List.map_toArray, List.map_cons, List.map_nil]); rfl) ?_; (with_reducible refine (hushref6_Respond.calls kj54 a0_0 a0_1 a4 a5 t383 t386 _ A80.out).mono ?_); rintro e w96 ⟨v384, rfl, ho0, hb⟩; refine ⟨_, rfl, ?_⟩; have HO385 := Aside0.mk (Kd.N_lower (Kd.N_mono (ok' := fun k_ => some k_ ≠ (v380 : Value).ownBlock ∧ k_ ≠ gb345 ∧ k_ ≠ gb374 ∧ k_ ≠ gb378) ho0 (fun k_ hk_ => ⟨(Kd.fresh' (Kd.N_lt (by (with_reducible repeat (first | apply Kd.N_alloc | apply Kd.N_drewN | apply Kd.N_drew)); exact HO381.out)) k_ hk_), (Kd.freshB (g := gb345) (o := .cells #[.int .i64 a0_0, .int .i64 a0_1] 23 (0, 0)) (by (with_reducible repeat (first | refine blk_drewN ?_ _ | refine blk_drew ?_ | refine blk_alloc ?_ _)); exact BK345.out) k_ hk_), (Kd.freshB (g := gb374) (o := .cells #[.int .i64 t371, .int .i64 t372] 23 (0, 0)) (by (with_reducible repeat (first | refine blk_drewN ?_ _ | refine blk_drew ?_ | refine blk_alloc ?_ _)); exact BK374.out) k_ hk_), (Kd.freshB (g := gb378) (o := .cells #[.int .i64 t375, .int .i64 t376] 23 (0, 0)) (by (with_reducible repeat (first | refine blk_drewN ?_ _ | refine blk_drew ?_ | refine blk_alloc ?_ _)); exact BK378.out) k_ hk_)⟩)) (below_size HB.out)); replace HO381 := Aside0.mk (Kd.N_elder' (by (with_reducible repeat (first | apply Kd.N_alloc | apply Kd.N_drewN | apply Kd.N_drew)); exact HO381.out) (Kd.N_base ho0) hb); replace BK345 := Aside0.mk (blk_below (g := gb345) (o := .cells #[.int .i64 a0_0, .int .i64 a0_1] 23 (0, 0)) (by (with_reducible repeat (first | refine blk_drewN ?_ _ | refine blk_drew ?_ | refine blk_alloc ?_ _)); exact BK345.out) hb); replace BK374 := Aside0.mk (blk_below (g := gb374) (o := .cells #[.int .i64 t371, .int .i64 t372] 23 (0, 0)) (by (with_reducible repeat (first | refine blk_drewN ?_ _ | refine blk_drew ?_ | refine blk_alloc ?_ _)); exact BK374.out) hb); replace BK378 := Aside0.mk (blk_below (g := gb378) (o := .cells #[.int .i64 t375, .int .i64 t376] 23 (0, 0)) (by (with_reducible repeat (first | refine blk_drewN ?_ _ | refine blk_drew ?_ | refine blk_alloc ?_ _)); exact BK378.out) hb); replace HB := Aside0.mk (below_step HB.out hb); (try clear hb); (try clear ho0); obtain ⟨Ao97, co97, eo97⟩ := Kd.N_slice HO381.out; subst eo97; obtain ⟨Ao98, co98, eo98⟩ := Kd.N_slice HO385.out; subst eo98) | ((with_reducible refine gate_callee (f := 10) rfl ?_); refine goesL_ (some 123) rfl rfl Try.func10 (by kernel_rfl) rfl #[.slice Ao97 t379.length co97, .slice Ao98 t383.length co98] rfl (by (try simp only [List.map_toArray, List.map_cons, List.map_nil]); rfl) ?_; (with_reducible refine (hushref2_Same.calls kj54 _ _ t379 _ _ t383 false _ ?side1 ?side2 ?side3 ?side4 A81.out).mono ?_); (case side1 => repeat (exact (Kd.N_reads' HO381.out).2.2)); (case side2 => exact (Kd.N_reads' HO381.out).2.1); (case side3 => repeat (exact (Kd.N_reads' HO385.out).2.2)); (case side4 => exact (Kd.N_reads' HO385.out).2.1); rintro e w' ⟨rfl, ⟨nd, rfl⟩⟩; refine ⟨_, rfl, ?_⟩))
            go_ret
            exact ⟨rfl, by repeat (with_reducible first | exact HB.out | apply pw_below_drewN)⟩
 ·
  rw [if_neg c7] at H
  exact absurd H (by simp)

/-- THE PURE STATEMENT of hushlaw6_NoiseHides. -/
def hushlaw6_NoiseHides.Pure : Prop := ∀ (p0 : S23) (p1 : Int) (p2 : Int) (p3 : List Int) (p4 : Int) (p5 : Int), ((Lit.int .i64 p0.f0).wf = true ∧ (Lit.int .i64 p0.f1).wf = true) → (Lit.int .i64 p1).wf = true → (Lit.int .i64 p2).wf = true → (p3.length ≤ maxLen ∧ p3.length * 8 ≤ 140737488351232 ∧ ∀ p3z ∈ p3, (Lit.int .i64 p3z).wf = true) → (Lit.int .i64 p4).wf = true → (Lit.int .i64 p5).wf = true → ((1 + 1) + 1) + 1 + 1 + ((p3.map (fun p3z => 1)).sum + 1) + 1 + 1 ≤ 1048576 → ∃ k, hushlaw6_NoiseHides.f k p0.f0 p0.f1 p1 p2 p3 p4 p5 = some true

end Go.Proofs.Ytjbgnlhgjgnclaa.PB

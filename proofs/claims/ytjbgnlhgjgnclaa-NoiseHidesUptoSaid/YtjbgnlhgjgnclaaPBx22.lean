
/- Functions of the program in Lean, by wip/xprint.py. Conditions: in each theorem. -/
import Derived.Test.YtjbgnlhgjgnclaaPBxs
import Derived.Test.YtjbgnlhgjgnclaaPBx0
import Derived.Test.YtjbgnlhgjgnclaaPBx2
import Derived.Test.YtjbgnlhgjgnclaaPBx6
import Derived.Test.YtjbgnlhgjgnclaaPBx21
namespace Go.Proofs.Ytjbgnlhgjgnclaa.PB
open Go.RowKit Go.Proofs.YtjbgnlhgjgnclaaW.PrintWords Go.Proofs.YtjbgnlhgjgnclaaW.PrintLast Go.Proofs.YtjbgnlhgjgnclaaW.PrintMore
attribute [local go_sem] max2_int min2_int max_two min_two max_three min_three max_four min_four   -- for this text's walks alone
set_option linter.unusedVariables false
set_option linter.unusedSimpArgs false

/-! ### noise_Respond: function 19 -/
mutual
def noise_Respond.j0 : Nat → Int → Int → Bool → Int → Int → Option ((List (S64)) × Int)
 | 0, _, _, _, _, _ => none
 | k + 1, x1, x2, x32, x308000, x308001 => if x32 = true then (some (([] : List (S64)), 3)) else (if (wrap64 (x308000 + (wrap64 ((wrap64 (x1 - 1)) * x308001)))) > 1073741824 then (some (([] : List (S64)), 4)) else ((slices_Repeat_int_int.f (([x308001] : List Int)) x1).bind fun t312 => (if 0 ≤ x2 then (if x2 < (t312.length : Int) then (noise_Respond.l0 k ([] : List (S64)) (t312.set (x2 : Int).toNat x308000) (t312.length : Int) 0) else (none)) else (none))))
def noise_Respond.l0 : Nat → List (S64) → List Int → Int → Int → Option ((List (S64)) × Int)
 | 0, _, _, _, _ => none
 | k + 1, x10, x52, x53, x54 => if x54 < x53 then (if 0 ≤ x54 then (if x54 < (x52.length : Int) then (if x10.length < 4398046511104 then (noise_Respond.l0 k (x10 ++ [(⟨(([x54] : List Int)), rd x52 x54⟩ : S64)]) x52 x53 (wrap64 (x54 + 1))) else (none)) else (none)) else (none)) else ((dist_Make.f k x10).bind fun bt323 => (some (bt323.1, bt323.2)))
end
def noise_Respond.f (k : Nat) (a0_0 : Int) (a0_1 : Int) (a1 : Int) (a2 : Int) : Option ((List (S64)) × Int) := (noise_loss.f k a0_0 a0_1).bind fun t308 => (if t308 = 0 then (if a1 < 1 then (noise_Respond.j0 k a1 a2 true a0_0 a0_1) else (if a1 > 4096 then (noise_Respond.j0 k a1 a2 true a0_0 a0_1) else (if a2 < 0 then (noise_Respond.j0 k a1 a2 true a0_0 a0_1) else (noise_Respond.j0 k a1 a2 (decide (a2 ≥ a1)) a0_0 a0_1)))) else (some (([] : List (S64)), t308)))
theorem noise_Respond.mono_l : ∀ k, (∀ y0 y1 y2 y3 y4, LeO (noise_Respond.j0 k y0 y1 y2 y3 y4) (noise_Respond.j0 (k + 1) y0 y1 y2 y3 y4)) ∧ (∀ y0 y1 y2 y3, LeO (noise_Respond.l0 k y0 y1 y2 y3) (noise_Respond.l0 (k + 1) y0 y1 y2 y3))
 | 0 => ⟨fun _ _ _ _ _ r h => by simp [noise_Respond.j0] at h, fun _ _ _ _ r h => by simp [noise_Respond.l0] at h⟩
 | k + 1 => by
  obtain ⟨ih0, ih1⟩ := noise_Respond.mono_l k
  refine ⟨?_, ?_⟩
  ·
   intro y0 y1 y2 y3 y4
   unfold noise_Respond.j0
   repeat' first
   | (with_reducible exact ih1 _ _ _ _)
   | (with_reducible exact LeO.refl _)
   | (with_reducible refine LeO.ite ?_ ?_)
   | (with_reducible refine LeO.bind ?_ (fun _ => ?_))
  ·
   intro y0 y1 y2 y3
   unfold noise_Respond.l0
   repeat' first
   | (with_reducible exact ih1 _ _ _ _)
   | (with_reducible exact dist_Make.mono _ _)
   | (with_reducible exact LeO.refl _)
   | (with_reducible refine LeO.ite ?_ ?_)
   | (with_reducible refine LeO.bind ?_ (fun _ => ?_))
theorem noise_Respond.mono : ∀ a0 a1 a2 a3 k, LeO (noise_Respond.f k a0 a1 a2 a3) (noise_Respond.f (k + 1) a0 a1 a2 a3) := by
 intro a0 a1 a2 a3 k
 obtain ⟨ih0, ih1⟩ := noise_Respond.mono_l k
 unfold noise_Respond.f
 repeat' first
   | (with_reducible exact ih0 _ _ _ _ _)
   | (with_reducible exact noise_loss.mono _ _ _)
   | (with_reducible exact LeO.refl _)
   | (with_reducible refine LeO.ite ?_ ?_)
   | (with_reducible refine LeO.bind ?_ (fun _ => ?_))
set_option maxHeartbeats 8000000 in
set_option maxRecDepth 100000 in
theorem noise_Respond.calls (k : Nat) (a0_0 : Int) (a0_1 : Int) (a1 : Int) (a2 : Int) (r1 : List (S64)) (r2 : Int) (w : World) (h : noise_Respond.f k a0_0 a0_1 a1 a2 = some (r1, r2)) :
  Calls Try.prog 19 #[.agg #[.int .i64 a0_0, .int .i64 a0_1], .int .i64 a1, .int .i64 a2] w fun e w' => ∃ v0_ : Value, e = .returned (.tuple #[v0_, .int .i64 r2]) ∧ Kd.N k64 64 w' w.heap.size (fun k_ => (w.heap.size ≤ k_)) v0_ r1 ∧ Below w.heap.size w w' := by
 have hu23 := Try.underlying23
 have hu64 := Try.underlying64
 have HB := Aside0.mk (Below.refl w.heap.size w)
 have H : ((noise_loss.f k a0_0 a0_1).bind fun t308 => (if t308 = 0 then (if a1 < 1 then (noise_Respond.j0 k a1 a2 true a0_0 a0_1) else (if a1 > 4096 then (noise_Respond.j0 k a1 a2 true a0_0 a0_1) else (if a2 < 0 then (noise_Respond.j0 k a1 a2 true a0_0 a0_1) else (noise_Respond.j0 k a1 a2 (decide (a2 ≥ a1)) a0_0 a0_1)))) else (some (([] : List (S64)), t308)))) = some (r1, r2) := h
 clear h
 obtain ⟨t308, A4, H⟩ := bnd_ H
 by_cases c5 : t308 = 0
 ·
  rw [if_pos c5] at H
  have c5b0 : (t308 == 0) = true := beq_iff_eq.mpr c5
  have c5b1 : (t308 != 0) = false := bne_eq_false_iff_eq.mpr c5
  clear c5
  have HC6 := Aside0.mk H
  clear H
  go_enter Try.func19, Try.ntmps19
  go_upto_region 4 with (first | ((with_reducible refine gate_dst (N := 3) rfl ?_); refine box_event ?hg (N := 3) ?hd (cs := #[.int .i64 a0_0, .int .i64 a0_1]) (t := 23) ?hr ?_; (case hd | hg => rfl); (case hr => go_simp; done); intro gb307 hg w7 hbox hb; have BK307 := Aside0.mk (hbox); have GW307 := gw_ HB.out hg; have GE307 := gw_ HB.out hg; replace HB := Aside0.mk (below_step HB.out hb); clear hb hbox hg; have hcz8_0 := cz0_ BK307; have hcz8_1 := cz1_ BK307; have hfz8_0 := blk_frozen BK307.out 0; have hfz8_1 := blk_frozen BK307.out 1) | ((with_reducible refine gate_callee (f := 26) rfl ?_); refine goesL_ (some 14) rfl rfl Try.func26 (by kernel_rfl) rfl #[.agg #[.int .i64 a0_0, .int .i64 a0_1]] rfl (by (try simp only [List.map_toArray, List.map_cons, List.map_nil]); rfl) ?_; (with_reducible refine (noise_loss.calls k a0_0 a0_1 t308 _ A4.out).mono ?_); rintro e w9 ⟨rfl, hb⟩; refine ⟨_, rfl, ?_⟩; replace BK307 := Aside0.mk (blk_below (g := gb307) (o := .cells #[.int .i64 a0_0, .int .i64 a0_1] 23 (0, 0)) (by (with_reducible repeat (first | refine blk_drewN ?_ _ | refine blk_drew ?_ | refine blk_alloc ?_ _)); exact BK307.out) hb); replace HB := Aside0.mk (below_step HB.out hb); (try clear hb)))
  go_cut [32] (fun v32 wc => ∃ (kq : Nat) (x32_5 : Bool), v32 = .bool x32_5 ∧ Aside0 (noise_Respond.j0 kq a1 a2 x32_5 a0_0 a0_1 = some (r1, r2)) ∧ Aside0 (kq ≤ k) ∧ Aside0 (wc.heap[gb307]? = some (.cells #[.int .i64 a0_0, .int .i64 a0_1] 23 (0, 0))) ∧ Aside0 (Below w.heap.size w wc))
  case first =>
   have H := HC6.out
   clear HC6
   by_cases c10 : a1 < 1
   ·
    rw [if_pos c10] at H
    have c10b0 : decide (a1 < 1) = true := decide_eq_true c10
    clear c10
    have H' := Aside0.mk H
    clear H
    go_wp2
    go_meet
    case rel => exact ⟨_, (true), rfl, H', ⟨by omega⟩, ⟨by (with_reducible repeat (first | refine blk_drewN ?_ _ | refine blk_drew ?_ | refine blk_alloc ?_ _)); exact BK307.out⟩, ⟨HB.out⟩⟩
   ·
    rw [if_neg c10] at H
    have c10b0 : decide (a1 < 1) = false := decide_eq_false c10
    clear c10
    by_cases c11 : a1 > 4096
    ·
     rw [if_pos c11] at H
     have c11b0 : decide (4096 < a1) = true := decide_eq_true c11
     clear c11
     have H' := Aside0.mk H
     clear H
     go_wp2
     go_meet
     case rel => exact ⟨_, (true), rfl, H', ⟨by omega⟩, ⟨by (with_reducible repeat (first | refine blk_drewN ?_ _ | refine blk_drew ?_ | refine blk_alloc ?_ _)); exact BK307.out⟩, ⟨HB.out⟩⟩
    ·
     rw [if_neg c11] at H
     have c11b0 : decide (4096 < a1) = false := decide_eq_false c11
     clear c11
     by_cases c12 : a2 < 0
     ·
      rw [if_pos c12] at H
      have c12b0 : decide (a2 < 0) = true := decide_eq_true c12
      clear c12
      have H' := Aside0.mk H
      clear H
      go_wp2
      go_meet
      case rel => exact ⟨_, (true), rfl, H', ⟨by omega⟩, ⟨by (with_reducible repeat (first | refine blk_drewN ?_ _ | refine blk_drew ?_ | refine blk_alloc ?_ _)); exact BK307.out⟩, ⟨HB.out⟩⟩
     ·
      rw [if_neg c12] at H
      have c12b0 : decide (a2 < 0) = false := decide_eq_false c12
      clear c12
      have H' := Aside0.mk H
      clear H
      go_wp2
      go_meet
      case rel => exact ⟨_, (decide (a2 ≥ a1)), rfl, H', ⟨by omega⟩, ⟨by (with_reducible repeat (first | refine blk_drewN ?_ _ | refine blk_drew ?_ | refine blk_alloc ?_ _)); exact BK307.out⟩, ⟨HB.out⟩⟩
  case rest =>
   clear HC6
   try clear c5b0
   try clear c5b1
   try clear hcz8_0
   try clear hcz8_1
   try clear hfz8_0
   try clear hfz8_1
   obtain ⟨kq, x32_5, rfl, HA, HJ5, BK307, HB⟩ := hcut
   cases kq with
   | zero => exact absurd HA.out (by simp [noise_Respond.j0])
   | succ kj5 =>
    have H := HA.out
    clear HA
    simp only [noise_Respond.j0] at H
    by_cases c13 : x32_5 = true
    ·
     subst c13
     rw [if_pos rfl] at H
     simp only [Option.some.injEq, Prod.mk.injEq] at H
     obtain ⟨rfl, rfl⟩ := H
     go_wp2
     go_ret2
     exact ⟨_, rfl, by exact Kd.N_nil _ _ _ _ _, HB.out⟩
    ·
     replace c13 := Bool.eq_false_iff.mpr c13
     subst c13
     rw [if_neg (show ¬ (false = true) by decide)] at H
     by_cases c14 : (wrap64 (a0_0 + (wrap64 ((wrap64 (a1 - 1)) * a0_1)))) > 1073741824
     ·
      rw [if_pos c14] at H
      have c14b0 : decide (1073741824 < (wrap64 (a0_0 + (wrap64 ((wrap64 (a1 - 1)) * a0_1))))) = true := decide_eq_true c14
      clear c14
      simp only [Option.some.injEq, Prod.mk.injEq] at H
      obtain ⟨rfl, rfl⟩ := H
      have hcz15_0 := cz0_ BK307
      have hcz15_1 := cz1_ BK307
      have hfz15_0 := blk_frozen BK307.out 0
      have hfz15_1 := blk_frozen BK307.out 1
      go_wp2
      go_ret2
      exact ⟨_, rfl, by exact Kd.N_nil _ _ _ _ _, HB.out⟩
     ·
      rw [if_neg c14] at H
      have c14b0 : decide (1073741824 < (wrap64 (a0_0 + (wrap64 ((wrap64 (a1 - 1)) * a0_1))))) = false := decide_eq_false c14
      clear c14
      obtain ⟨y309, hy309⟩ : ∃ y_ : List Int, y_ = (([a0_1] : List Int)) := ⟨_, rfl⟩
      replace H : ((slices_Repeat_int_int.f y309 a1).bind fun t312 => (if 0 ≤ a2 then (if a2 < (t312.length : Int) then (noise_Respond.l0 kj5 ([] : List (S64)) (t312.set (a2 : Int).toNat a0_0) (t312.length : Int) 0) else (none)) else (none))) = some (r1, r2) := by (rw [hy309]; with_reducible exact H)
      have Ny309 := Aside0.mk hy309
      clear hy309
      obtain ⟨t312, A16, H⟩ := bnd_ H
      by_cases c17 : 0 ≤ a2
      ·
       rw [if_pos c17] at H
       have c17b0 : decide (0 ≤ a2) = true := decide_eq_true c17
       clear c17
       by_cases c18 : a2 < (t312.length : Int)
       ·
        rw [if_pos c18] at H
        have c18b0 : decide (a2 < (t312.length : Int)) = true := decide_eq_true c18
        clear c18
        obtain ⟨y315, hy315⟩ : ∃ y_ : List Int, y_ = (t312.set (a2 : Int).toNat a0_0) := ⟨_, rfl⟩
        replace H : (noise_Respond.l0 kj5 ([] : List (S64)) y315 (t312.length : Int) 0) = some (r1, r2) := by (rw [hy315]; with_reducible exact H)
        have Ny315 := Aside0.mk hy315
        clear hy315
        have H' := Aside0.mk H
        clear H
        have hcz20_0 := cz0_ BK307
        have hcz20_1 := cz1_ BK307
        have hfz20_0 := blk_frozen BK307.out 0
        have hfz20_1 := blk_frozen BK307.out 1
        go_wp2_with (first | ((with_reducible refine gate_dst (N := 44) rfl ?_); refine Kd.R_lit (Kd.int .i64) _ 3 ?hg (N := 44) ?hd (xs := ([a0_1] : List Int)) (inner := [.int .i64 a0_1]) (ok := fun _ => True) (okp := fun _ => True) ?hr ?hp (fun _ hk => hk) trivial (Below.refl _ _) (Nat.le_refl _) (by simp) ?_; (case hd | hg => rfl); (case hr => go_simp; done); (case hp => exact (Reps.one (show Kd.M (Kd.int .i64) _ _ _ a0_1 [.int .i64 a0_1] from rfl) (Reps.none _ _))); intro v310 w21 ho22 hb hg_ hnew_; clear hg_ hnew_; (rw [← Ny309.out] at ho22); have HO311 := Aside0.mk (Kd.R_lower (Kd.R_newM (M := fun k_ => (w.heap.size ≤ k_)) ho22 (below_size HB.out) (fun k_ h_ => h_)) (below_size HB.out)); replace BK307 := Aside0.mk (blk_below (g := gb307) (o := .cells #[.int .i64 a0_0, .int .i64 a0_1] 23 (0, 0)) (by (with_reducible repeat (first | refine blk_drewN ?_ _ | refine blk_drew ?_ | refine blk_alloc ?_ _)); exact BK307.out) hb); replace HB := Aside0.mk (below_step HB.out hb); clear hb ho22; obtain ⟨Ao23, co23, eo23⟩ := Kd.R_slice HO311.out; subst eo23) | ((with_reducible refine gate_callee (f := 42) rfl ?_); refine goesL_ (some 46) rfl rfl Try.func42 (by kernel_rfl) rfl #[.slice Ao23 y309.length co23, .int .i64 a1] rfl (by (try simp only [List.map_toArray, List.map_cons, List.map_nil]); rfl) ?_; (with_reducible refine (slices_Repeat_int_int.calls _ _ y309 a1 t312 _ ?side1 ?side2 A16.out).mono ?_); (case side1 => repeat (exact (Kd.R_reads' HO311.out).2.2)); (case side2 => exact (Kd.R_reads' HO311.out).2.1); rintro e w24 ⟨v313, rfl, ho0, hb⟩; refine ⟨_, rfl, ?_⟩; have HO314 := Aside0.mk (Kd.R_lower (Kd.R_new' (Kd.R_newM (M := fun k_ => (w.heap.size ≤ k_)) ho0 (below_size HB.out) (fun k_ h_ => h_)) (Kd.R_lt (by (with_reducible repeat (first | apply Kd.R_alloc | apply Kd.R_drewN | apply Kd.R_drew)); exact HO311.out))) (below_size HB.out)); replace HO311 := Aside0.mk (Kd.R_elder' (by (with_reducible repeat (first | apply Kd.R_alloc | apply Kd.R_drewN | apply Kd.R_drew)); exact HO311.out) (Kd.R_base ho0) hb); replace BK307 := Aside0.mk (blk_below (g := gb307) (o := .cells #[.int .i64 a0_0, .int .i64 a0_1] 23 (0, 0)) (by (with_reducible repeat (first | refine blk_drewN ?_ _ | refine blk_drew ?_ | refine blk_alloc ?_ _)); exact BK307.out) hb); replace HB := Aside0.mk (below_step HB.out hb); (try clear hb); (try clear ho0); have hcz25_0 := cz0_ BK307; have hcz25_1 := cz1_ BK307; have hfz25_0 := blk_frozen BK307.out 0; have hfz25_1 := blk_frozen BK307.out 1; have p19 : 0 ≤ (a2 : Int) := of_decide_eq_true (by (with_reducible assumption)); have q19 : (a2 : Int) < ((t312.length : Int) : Int) := of_decide_eq_true (by (with_reducible assumption)); obtain ⟨go19, co19, eo19, gb19, gl19, cl19, HG19⟩ := Kd.R_form HO314.out (by omega); (cases eo19); have GB19 := Aside0.mk gb19; have GG19 := Aside0.mk HG19; clear gb19 gl19 HG19; obtain ⟨hx19_0, hf19_0⟩ := Kd.R_celln 0 HO314.out (a2 : Int) p19 q19; replace p19 := eq_true p19; replace q19 := eq_true q19; have n_ := Aside0.mk (Kd.R_mono (ok' := (fun k_ => (w.heap.size ≤ k_) ∧ some k_ ≠ (.slice Ao23 y309.length co23 : Value).ownBlock)) HO314.out (fun k_ hk => ⟨hk.1.1, hk.2⟩)); clear HO314; have HO314 := n_; clear n_; obtain ⟨hy26_, hz26_⟩ := Kd.R_celln 0 HO314.out (a2 : Int) (of_decide_eq_true (by (with_reducible assumption))) (of_decide_eq_true (by (with_reducible assumption))); have HP26 := Kd.R_putg HO314.out (a2 : Int) a0_0) | ((with_reducible refine gate_store (t := 3) (p := 51) rfl ?_); refine store_event (t := 3) (p := 51) (v := ?vo_w27) (w1 := (w24.setCell ⟨go19, (a2 : Int).toNat, none⟩ (.int .i64 a0_0))) ?hg ?ho ?hn ?hr ?_; (case ho => rfl); (case hg => rfl); (case hn => rfl); (case hr => go_simp; done); intro w27 hw; have hg : w24.grownBy w27 (some go19) := (by rw [hw]; exact HP26.2); have hp_ : Kd.R (Kd.int .i64) 3 w27 w.heap.size (fun k_ => (w.heap.size ≤ k_) ∧ some k_ ≠ (.slice Ao23 y309.length co23 : Value).ownBlock) (.slice (some ⟨go19, 0, none⟩) t312.length co19) y315 := (by rw [hw, Ny315.out]; exact HP26.1); clear HP26; replace BK307 := Aside0.mk (blk_grown (g := gb307) (o := .cells #[.int .i64 a0_0, .int .i64 a0_1] 23 (0, 0)) (by (with_reducible repeat (first | refine blk_drewN ?_ _ | refine blk_drew ?_ | refine blk_alloc ?_ _)); exact BK307.out) hg (Kd.R_ne HO314.out BK307.out (by decide))); replace HO311 := Aside0.mk (Kd.R_after (v := (.slice (some ⟨go19, 0, none⟩) t312.length co19)) (v1 := (.slice (some ⟨go19, 0, none⟩) t312.length co19)) (ok := (fun k_ => (w.heap.size ≤ k_))) (by (with_reducible repeat (first | apply Kd.R_alloc | apply Kd.R_drewN | apply Kd.R_drew)); exact Kd.R_mono HO311.out (fun _ hk => ⟨hk.1.1, hk.2⟩)) hg (.inl rfl)); replace HO314 := Aside0.mk (hp_); replace HB := Aside0.mk ((by rw [hw]; exact below_set (HB.out) GB19.out : Below w.heap.size w w27)); clear hg hw hp_))
        go_loopg [10, 54] kj5 (fun kq v10 v54 w' => ∃ (x10_2 : List (S64)) (x54_2 : Int), v54 = .int .i64 x54_2 ∧ Aside0 (noise_Respond.l0 kq x10_2 y315 (t312.length : Int) x54_2 = some (r1, r2)) ∧ Aside0 (kq ≤ kj5) ∧ Aside0 (Kd.N k64 64 w' w.heap.size (fun k_ => (w.heap.size ≤ k_) ∧ some k_ ≠ ((.slice (some ⟨go19, 0, none⟩) t312.length co19) : Value).ownBlock ∧ k_ ≠ gb307) v10 x10_2) ∧ Aside0 (Kd.R (Kd.int .i64) 3 w' w.heap.size (fun k_ => (w.heap.size ≤ k_)) (.slice (some ⟨go19, 0, none⟩) t312.length co19) y315) ∧ Aside0 (w'.heap[gb307]? = some (.cells #[.int .i64 a0_0, .int .i64 a0_1] 23 (0, 0))) ∧ Aside0 (Below w.heap.size w w'))
        case atStart => exact ⟨(([] : List (S64))), (0), rfl, H', ⟨Nat.le_refl _⟩, ⟨by exact Kd.N_nil _ _ _ _ _⟩, ⟨by (with_reducible repeat (first | apply Kd.R_alloc | apply Kd.R_drewN | apply Kd.R_drew)); exact Kd.R_mono HO314.out (fun _ hk => hk.1)⟩, ⟨by (with_reducible repeat (first | refine blk_drewN ?_ _ | refine blk_drew ?_ | refine blk_alloc ?_ _)); exact BK307.out⟩, ⟨HB.out⟩⟩
        case round =>
         clear H'
         try clear c14b0
         try clear c17b0
         try clear c18b0
         try clear p19
         try clear q19
         try clear hcz20_0
         try clear hcz20_1
         try clear hcz25_0
         try clear hcz25_1
         try clear hfz20_0
         try clear hfz20_1
         try clear hfz25_0
         try clear hfz25_1
         try clear hx19_0
         obtain ⟨x10_2, x54_2, rfl, HA, HK2, HO_10, HO_52, BK307, HB⟩ := hrel
         have hl52_2 := (Kd.R_reads' HO_52.out).1
         rw [hl52_2] at HO_52
         (try simp only [hl52_2])
         (try simp only [hl52_2] at HO_10)
         cases gk with
         | zero => exact absurd HA.out (by simp [noise_Respond.l0])
         | succ k2 =>
          have H := HA.out
          clear HA
          simp only [noise_Respond.l0] at H
          by_cases c28 : x54_2 < (t312.length : Int)
          ·
           rw [if_pos c28] at H
           have c28b0 : decide (x54_2 < (t312.length : Int)) = true := decide_eq_true c28
           clear c28
           by_cases c29 : 0 ≤ x54_2
           ·
            rw [if_pos c29] at H
            have c29b0 : decide (0 ≤ x54_2) = true := decide_eq_true c29
            clear c29
            by_cases c30 : x54_2 < (y315.length : Int)
            ·
             rw [if_pos c30] at H
             have c30b0 : decide (x54_2 < (y315.length : Int)) = true := decide_eq_true c30
             clear c30
             obtain ⟨y317, hy317⟩ : ∃ y_ : List Int, y_ = (([x54_2] : List Int)) := ⟨_, rfl⟩
             replace H : (if x10_2.length < 4398046511104 then (noise_Respond.l0 k2 (x10_2 ++ [(⟨y317, rd y315 x54_2⟩ : S64)]) y315 (t312.length : Int) (wrap64 (x54_2 + 1))) else (none)) = some (r1, r2) := by (rw [hy317]; with_reducible exact H)
             have Ny317 := Aside0.mk hy317
             clear hy317
             by_cases c31 : x10_2.length < 4398046511104
             ·
              rw [if_pos c31] at H
              have LMc31 := Aside0.mk c31
              clear c31
              obtain ⟨y320, hy320⟩ : ∃ y_ : List (S64), y_ = (x10_2 ++ [(⟨y317, rd y315 x54_2⟩ : S64)]) := ⟨_, rfl⟩
              replace H : (noise_Respond.l0 k2 y320 y315 (t312.length : Int) (wrap64 (x54_2 + 1))) = some (r1, r2) := by (rw [hy320]; with_reducible exact H)
              have Ny320 := Aside0.mk hy320
              clear hy320
              have H' := Aside0.mk H
              clear H
              have p316 : 0 ≤ (x54_2 : Int) := of_decide_eq_true (by (with_reducible assumption))
              have q316 : x54_2 < (y315.length : Int) := of_decide_eq_true (by (with_reducible assumption))
              obtain ⟨ad316, e316, hx316_0⟩ := Kd.at_int (Kd.R_reads' HO_52.out).2.2 x54_2 p316 q316
              obtain rfl : (⟨go19, 0, none⟩ : Addr) = ad316 := (by injection e316)
              (simp only [add_plain] at hx316_0)
              replace p316 := eq_true p316
              replace q316 := eq_true q316
              go_wp2_with (first | ((with_reducible refine gate_dst (N := 61) rfl ?_); refine Kd.R_lit (Kd.int .i64) _ 3 ?hg (N := 61) ?hd (xs := ([x54_2] : List Int)) (inner := [.int .i64 x54_2]) (ok := fun _ => True) (okp := fun _ => True) ?hr ?hp (fun _ hk => hk) trivial (Below.refl _ _) (Nat.le_refl _) (by simp) ?_; (case hd | hg => rfl); (case hr => go_simp; done); (case hp => exact (Reps.one (show Kd.M (Kd.int .i64) _ _ _ x54_2 [.int .i64 x54_2] from rfl) (Reps.none _ _))); intro v318 w32 ho33 hb hg_ hnew_; clear hg_ hnew_; (rw [← Ny317.out] at ho33); replace HO_10 := Aside0.mk (Kd.N_elder' (by (with_reducible repeat (first | apply Kd.N_alloc | apply Kd.N_drewN | apply Kd.N_drew)); exact HO_10.out) (Kd.R_base ho33) hb); have HO319 := Aside0.mk (Kd.R_lower (Kd.R_new' (Kd.R_newM (M := fun k_ => (w.heap.size ≤ k_)) ho33 (below_size HB.out) (fun k_ h_ => h_)) (Kd.R_lt (by (with_reducible repeat (first | apply Kd.R_alloc | apply Kd.R_drewN | apply Kd.R_drew)); exact HO_52.out))) (below_size HB.out)); replace HO_52 := Aside0.mk (Kd.R_elder' (by (with_reducible repeat (first | apply Kd.R_alloc | apply Kd.R_drewN | apply Kd.R_drew)); exact HO_52.out) (Kd.R_base ho33) hb); replace BK307 := Aside0.mk (blk_below (g := gb307) (o := .cells #[.int .i64 a0_0, .int .i64 a0_1] 23 (0, 0)) (by (with_reducible repeat (first | refine blk_drewN ?_ _ | refine blk_drew ?_ | refine blk_alloc ?_ _)); exact BK307.out) hb); replace HB := Aside0.mk (below_step HB.out hb); clear hb ho33; obtain ⟨Ao34, co34, eo34⟩ := Kd.R_slice HO319.out; subst eo34) | ((with_reducible refine gate_builtin (b := .append) (xs := #[.tmp 59, .tmp 64]) rfl ?_); at_builtin; refine Kd.N_append k64 (w0 := w) w.heap.size rfl (.tmp 59) (.tmp 64) 25 64 (.agg #[(.slice none 0 0), (.int .i64 0)]) 32 rfl Try.underlying25 info64 rfl (by decide) (by omega) u10 x10_2 (⟨y317, rd y315 x54_2⟩ : S64) [.slice Ao34 y317.length co34, .int .i64 (rd y315 x54_2)] (fun k_ => (w.heap.size ≤ k_) ∧ some k_ ≠ (.slice (some ⟨go19, 0, none⟩) y315.length co19 : Value).ownBlock ∧ k_ ≠ gb307) (fun k_ => ((fun k_ => (w.heap.size ≤ k_) ∧ some k_ ≠ (.slice (some ⟨go19, 0, none⟩) y315.length co19 : Value).ownBlock ∧ k_ ≠ gb307)) k_ ∧ some k_ ≠ (u10 : Value).ownBlock) rfl rfl ?aP (fun _ hk => hk) ?aF ?aO ?aB ?aS ?aL ?_; (case aP => exact (k64_mkF _ _ (⟨y317, rd y315 x54_2⟩ : S64) (Kd.R_reads' (Kd.R_mono (ok' := (fun k_ => ((fun k_ => (w.heap.size ≤ k_) ∧ some k_ ≠ (.slice (some ⟨go19, 0, none⟩) y315.length co19 : Value).ownBlock ∧ k_ ≠ gb307)) k_ ∧ some k_ ≠ (u10 : Value).ownBlock)) (Kd.R_types (Kd.R_apart' (HO319.out) (Kd.N_typed HO_10.out) (by decide)) BK307.out (by decide)) (fun k_ hk => ⟨⟨hk.1.1.1.1, ⟨hk.1.1.2, hk.2⟩⟩, hk.1.2⟩))).2.1 (Kd.R_F (Kd.R_mono (ok' := (fun k_ => ((fun k_ => (w.heap.size ≤ k_) ∧ some k_ ≠ (.slice (some ⟨go19, 0, none⟩) y315.length co19 : Value).ownBlock ∧ k_ ≠ gb307)) k_ ∧ some k_ ≠ (u10 : Value).ownBlock)) (Kd.R_types (Kd.R_apart' (HO319.out) (Kd.N_typed HO_10.out) (by decide)) BK307.out (by decide)) (fun k_ hk => ⟨⟨hk.1.1.1.1, ⟨hk.1.1.2, hk.2⟩⟩, hk.1.2⟩))))); (case aB => exact HB.out); (case aF => exact (fun k_ hk => ⟨(Nat.le_trans (below_size HB.out) hk), Kd.fresh' (Kd.R_lt (by (with_reducible repeat (first | apply Kd.R_alloc | apply Kd.R_drewN | apply Kd.R_drew)); exact HO_52.out)) k_ hk, Kd.freshB (g := gb307) (o := .cells #[.int .i64 a0_0, .int .i64 a0_1] 23 (0, 0)) (by (with_reducible repeat (first | refine blk_drewN ?_ _ | refine blk_drew ?_ | refine blk_alloc ?_ _)); exact BK307.out) k_ hk⟩)); (case aO => exact (by (with_reducible repeat (first | apply Kd.N_alloc | apply Kd.N_drewN | apply Kd.N_drew)); exact Kd.N_mono HO_10.out (fun _ hk => ⟨hk.1.1, ⟨hk.1.2.1, hk.1.2.2⟩⟩))); (case aS => exact (below_size HB.out)); (case aL => have := LMc31.out; omega); intro v321 w35 ho hb hg hat; rw [← Ny320.out] at ho; replace HO_52 := Aside0.mk (Kd.R_over' (by (with_reducible repeat (first | apply Kd.R_alloc | apply Kd.R_drewN | apply Kd.R_drew)); exact HO_52.out) (Kd.N_typed (by (with_reducible repeat (first | apply Kd.N_alloc | apply Kd.N_drewN | apply Kd.N_drew)); exact HO_10.out)) (by decide) hg); replace BK307 := Aside0.mk (blk_grown (g := gb307) (o := .cells #[.int .i64 a0_0, .int .i64 a0_1] 23 (0, 0)) (by (with_reducible repeat (first | refine blk_drewN ?_ _ | refine blk_drew ?_ | refine blk_alloc ?_ _)); exact BK307.out) hg (Kd.N_ne HO_10.out BK307.out (by decide))); replace HB := Aside0.mk (hb); have HO322 := Aside0.mk (ho); clear HO_10 HO319; clear ho hb hg hat))
              (try simp only [← hl52_2])
              go_roundg k2
              case measure => have := HJ5.out; have := HK2.out; omega
              case rel => exact ⟨(y320), (wrap64 (x54_2 + 1)), rfl, H', ⟨by have := HJ5.out; have := HK2.out; omega⟩, ⟨by (try simp only [hl52_2]); (with_reducible repeat (first | apply Kd.N_alloc | apply Kd.N_drewN | apply Kd.N_drew)); exact HO322.out⟩, ⟨by (try simp only [hl52_2]); (with_reducible repeat (first | apply Kd.R_alloc | apply Kd.R_drewN | apply Kd.R_drew)); exact Kd.R_mono HO_52.out (fun _ hk => hk.1)⟩, ⟨by (with_reducible repeat (first | refine blk_drewN ?_ _ | refine blk_drew ?_ | refine blk_alloc ?_ _)); exact BK307.out⟩, ⟨HB.out⟩⟩
             ·
              rw [if_neg c31] at H
              exact absurd H (by simp)
            ·
             rw [if_neg c30] at H
             exact absurd H (by simp)
           ·
            rw [if_neg c29] at H
            exact absurd H (by simp)
          ·
           rw [if_neg c28] at H
           have c28b0 : decide (x54_2 < (t312.length : Int)) = false := decide_eq_false c28
           rw [hl52_2] at c28b0
           clear c28
           obtain ⟨⟨t323, t326⟩, A36, H⟩ := bnd_ H
           dsimp only at H
           simp only [Option.some.injEq, Prod.mk.injEq] at H
           obtain ⟨rfl, rfl⟩ := H
           obtain ⟨Ao37, co37, eo37⟩ := Kd.N_slice HO_10.out
           subst eo37
           go_wp2_with (((with_reducible refine gate_callee (f := 30) rfl ?_); refine goesL_ (some 68) rfl rfl Try.func30 (by kernel_rfl) rfl #[.slice Ao37 x10_2.length co37] rfl (by (try simp only [List.map_toArray, List.map_cons, List.map_nil]); rfl) ?_; (with_reducible refine (dist_Make.calls k2 _ _ x10_2 t323 t326 _ ?side1 ?side2 A36.out).mono ?_); (case side1 => repeat (exact (Kd.N_reads' HO_10.out).2.2)); (case side2 => exact (Kd.N_reads' HO_10.out).2.1); rintro e w38 ⟨v324, rfl, ho0, hb⟩; refine ⟨_, rfl, ?_⟩; have HO325 := Aside0.mk (Kd.N_lower (Kd.N_mono (ok' := fun k_ => (w.heap.size ≤ k_) ∧ some k_ ≠ (.slice Ao37 x10_2.length co37 : Value).ownBlock ∧ some k_ ≠ (.slice (some ⟨go19, 0, none⟩) y315.length co19 : Value).ownBlock ∧ k_ ≠ gb307) ho0 (fun k_ hk_ => ⟨(Nat.le_trans (below_size HB.out) hk_), (Kd.fresh' (Kd.N_lt (by (with_reducible repeat (first | apply Kd.N_alloc | apply Kd.N_drewN | apply Kd.N_drew)); exact HO_10.out)) k_ hk_), (Kd.fresh' (Kd.R_lt (by (with_reducible repeat (first | apply Kd.R_alloc | apply Kd.R_drewN | apply Kd.R_drew)); exact HO_52.out)) k_ hk_), (Kd.freshB (g := gb307) (o := .cells #[.int .i64 a0_0, .int .i64 a0_1] 23 (0, 0)) (by (with_reducible repeat (first | refine blk_drewN ?_ _ | refine blk_drew ?_ | refine blk_alloc ?_ _)); exact BK307.out) k_ hk_)⟩)) (below_size HB.out)); replace HO_10 := Aside0.mk (Kd.N_elder' (by (with_reducible repeat (first | apply Kd.N_alloc | apply Kd.N_drewN | apply Kd.N_drew)); exact HO_10.out) (Kd.N_base ho0) hb); replace HO_52 := Aside0.mk (Kd.R_below (by (with_reducible repeat (first | apply Kd.R_alloc | apply Kd.R_drewN | apply Kd.R_drew)); exact HO_52.out) hb); replace BK307 := Aside0.mk (blk_below (g := gb307) (o := .cells #[.int .i64 a0_0, .int .i64 a0_1] 23 (0, 0)) (by (with_reducible repeat (first | refine blk_drewN ?_ _ | refine blk_drew ?_ | refine blk_alloc ?_ _)); exact BK307.out) hb); replace HB := Aside0.mk (below_step HB.out hb); (try clear hb); (try clear ho0)))
           go_ret2
           exact ⟨_, rfl, by (with_reducible repeat (first | apply Kd.N_alloc | apply Kd.N_drewN | apply Kd.N_drew)); exact Kd.N_mono HO325.out (fun _ hk => hk.1), HB.out⟩
       ·
        rw [if_neg c18] at H
        exact absurd H (by simp)
      ·
       rw [if_neg c17] at H
       exact absurd H (by simp)
 ·
  rw [if_neg c5] at H
  have c5b0 : (t308 == 0) = false := beq_eq_false_iff_ne.mpr c5
  have c5b1 : (t308 != 0) = true := bne_iff_ne.mpr c5
  simp only [Option.some.injEq, Prod.mk.injEq] at H
  obtain ⟨rfl, rfl⟩ := H
  go_enter Try.func19, Try.ntmps19
  go_wp2_with (first | ((with_reducible refine gate_dst (N := 3) rfl ?_); refine box_event ?hg (N := 3) ?hd (cs := #[.int .i64 a0_0, .int .i64 a0_1]) (t := 23) ?hr ?_; (case hd | hg => rfl); (case hr => go_simp; done); intro gb307 hg w39 hbox hb; have BK307 := Aside0.mk (hbox); have GW307 := gw_ HB.out hg; have GE307 := gw_ HB.out hg; replace HB := Aside0.mk (below_step HB.out hb); clear hb hbox hg; have hcz40_0 := cz0_ BK307; have hcz40_1 := cz1_ BK307; have hfz40_0 := blk_frozen BK307.out 0; have hfz40_1 := blk_frozen BK307.out 1) | ((with_reducible refine gate_callee (f := 26) rfl ?_); refine goesL_ (some 14) rfl rfl Try.func26 (by kernel_rfl) rfl #[.agg #[.int .i64 a0_0, .int .i64 a0_1]] rfl (by (try simp only [List.map_toArray, List.map_cons, List.map_nil]); rfl) ?_; (with_reducible refine (noise_loss.calls k a0_0 a0_1 t308 _ A4.out).mono ?_); rintro e w41 ⟨rfl, hb⟩; refine ⟨_, rfl, ?_⟩; replace BK307 := Aside0.mk (blk_below (g := gb307) (o := .cells #[.int .i64 a0_0, .int .i64 a0_1] 23 (0, 0)) (by (with_reducible repeat (first | refine blk_drewN ?_ _ | refine blk_drew ?_ | refine blk_alloc ?_ _)); exact BK307.out) hb); replace HB := Aside0.mk (below_step HB.out hb); (try clear hb)))
  go_ret2
  exact ⟨_, rfl, by exact Kd.N_nil _ _ _ _ _, HB.out⟩

end Go.Proofs.Ytjbgnlhgjgnclaa.PB


/- Functions of the program in Lean, by wip/xprint.py. Conditions: in each theorem. -/
import Derived.Test.YtkemhfhmlcljjaaPRxs
import Derived.Test.YtkemhfhmlcljjaaPRx0
import Derived.Test.YtkemhfhmlcljjaaPRx6
namespace Go.Proofs.Ytkemhfhmlcljjaa.PR
open Go.RowKit Go.Proofs.YtkemhfhmlcljjaaW.PrintWords Go.Proofs.YtkemhfhmlcljjaaW.PrintLast Go.Proofs.YtkemhfhmlcljjaaW.PrintMore
attribute [local go_sem] max2_int min2_int max_two min_two max_three min_three max_four min_four   -- for this text's walks alone
set_option linter.unusedVariables false
set_option linter.unusedSimpArgs false

/-! ### hushlaw2_keyed: function 38 -/
mutual
def hushlaw2_keyed.l0 : Nat → List (S45) → List (S45) → List (S32) → Int → Int → Option ((List (S45)))
 | 0, _, _, _, _, _ => none
 | k + 1, x1, x5, x11, x12, x13 => if x13 < x12 then (if 0 ≤ x13 then (if x13 < (x11.length : Int) then ((plain_Then.f k x1 ((rd_T32 x11 x13).f0)).bind fun t221 => (hushlaw2_keyed.l1 k x1 x5 x13 ([] : List (S32)) x11 x12 x13 t221 (t221.length : Int) 0 ((rd_T32 x11 x13).f0) ((rd_T32 x11 x13).f1))) else (none)) else (none)) else (some x5)
def hushlaw2_keyed.l1 : Nat → List (S45) → List (S45) → Int → List (S32) → List (S32) → Int → Int → List (S32) → Int → Int → List Int → Int → Option ((List (S45)))
 | 0, _, _, _, _, _, _, _, _, _, _, _, _ => none
 | k + 1, x1, x5, x6, x8, x11, x12, x13, x21, x22, x23, x221000, x221001 => if x23 < x22 then (if 0 ≤ x23 then (if x23 < (x21.length : Int) then ((some (([x6] : List Int) : List Int)).bind fun y226 => (if y226.length + ((rd_T32 x21 x23).f0).length < 17592186044416 then (if x8.length < 4398046511104 then (hushlaw2_keyed.l1 k x1 x5 x6 (x8 ++ [(⟨(y226 ++ ((rd_T32 x21 x23).f0)), (rd_T32 x21 x23).f1⟩ : S32)]) x11 x12 x13 x21 x22 (wrap64 (x23 + 1)) x221000 x221001) else (none)) else (none))) else (none)) else (none)) else (if x5.length < 2932031007402 then (hushlaw2_keyed.l0 k x1 (x5 ++ [(⟨x221000, x8⟩ : S45)]) x11 x12 (wrap64 (x13 + 1))) else (none))
end
def hushlaw2_keyed.f (k : Nat) (l0 : List (S32)) (l1 : List (S45)) : Option ((List (S45))) := hushlaw2_keyed.l0 k l1 ([] : List (S45)) l0 (l0.length : Int) 0
theorem hushlaw2_keyed.mono_l : ∀ k, (∀ y0 y1 y2 y3 y4, LeO (hushlaw2_keyed.l0 k y0 y1 y2 y3 y4) (hushlaw2_keyed.l0 (k + 1) y0 y1 y2 y3 y4)) ∧ (∀ y0 y1 y2 y3 y4 y5 y6 y7 y8 y9 y10 y11, LeO (hushlaw2_keyed.l1 k y0 y1 y2 y3 y4 y5 y6 y7 y8 y9 y10 y11) (hushlaw2_keyed.l1 (k + 1) y0 y1 y2 y3 y4 y5 y6 y7 y8 y9 y10 y11))
 | 0 => ⟨fun _ _ _ _ _ r h => by simp [hushlaw2_keyed.l0] at h, fun _ _ _ _ _ _ _ _ _ _ _ _ r h => by simp [hushlaw2_keyed.l1] at h⟩
 | k + 1 => by
  obtain ⟨ih0, ih1⟩ := hushlaw2_keyed.mono_l k
  refine ⟨?_, ?_⟩
  ·
   intro y0 y1 y2 y3 y4
   unfold hushlaw2_keyed.l0
   repeat' first
   | (with_reducible exact ih1 _ _ _ _ _ _ _ _ _ _ _ _)
   | (with_reducible exact plain_Then.mono _ _ _)
   | (with_reducible exact LeO.refl _)
   | (with_reducible refine LeO.ite ?_ ?_)
   | (with_reducible refine LeO.bind ?_ (fun _ => ?_))
  ·
   intro y0 y1 y2 y3 y4 y5 y6 y7 y8 y9 y10 y11
   unfold hushlaw2_keyed.l1
   repeat' first
   | (with_reducible exact ih0 _ _ _ _ _)
   | (with_reducible exact ih1 _ _ _ _ _ _ _ _ _ _ _ _)
   | (with_reducible exact LeO.refl _)
   | (with_reducible refine LeO.ite ?_ ?_)
   | (with_reducible refine LeO.bind ?_ (fun _ => ?_))
theorem hushlaw2_keyed.mono : ∀ a0 a1 k, LeO (hushlaw2_keyed.f k a0 a1) (hushlaw2_keyed.f (k + 1) a0 a1) := by
 intro a0 a1 k
 obtain ⟨ih0, ih1⟩ := hushlaw2_keyed.mono_l k
 unfold hushlaw2_keyed.f
 repeat' (with_reducible exact ih0 _ _ _ _ _)
def hushlaw2_keyed.T9 : Bool × List (List Nat × List Nat) := (true, [([], []), ([], []), ([1], [1]), ([], []), ([3], [3]), ([2, 4], [2, 4]), ([], []), ([6], [6]), ([5, 7], [5, 7]), ([8], [8]), ([0, 9, 5], [0, 9]), ([10, 10, 0, 1, 2, 3, 4, 5, 6, 7, 8, 9, 10], [0, 10])])
def hushlaw2_keyed.B9 : List Nat := [0, 0, 2, 0, 8, 30, 0, 64, 254, 510, 1023, 2047]
theorem hushlaw2_keyed.tab9 : rtab .any (opsOf Try.f38 9) = hushlaw2_keyed.T9 := by kernel_rfl
theorem hushlaw2_keyed.bits9 : waitsOk hushlaw2_keyed.T9.2 hushlaw2_keyed.B9 = true := by kernel_rfl
set_option maxHeartbeats 8000000 in
set_option maxRecDepth 100000 in
theorem hushlaw2_keyed.calls (k : Nat) (P0_ : Nat → Prop) (A0 : Option Addr) (c0 : Nat) (l0 : List (S32)) (P1_ : Nat → Prop) (A1 : Option Addr) (c1 : Nat) (l1 : List (S45)) (r : List (S45)) (w : World) (hs0 : Kd.V k32 32 w w.heap.size (fun k_ => P0_ k_) (.slice A0 l0.length c0) l0) (hs1 : Kd.V k45 45 w w.heap.size (fun k_ => P1_ k_) (.slice A1 l1.length c1) l1) (h : hushlaw2_keyed.f k l0 l1 = some r) :
  Calls Try.prog 38 #[.slice A0 l0.length c0, .slice A1 l1.length c1] w fun e w' => ∃ v0_ : Value, e = .returned (v0_) ∧ Kd.N k45 45 w' w.heap.size (fun k_ => ((P0_ k_ ∨ P1_ k_) ∨ w.heap.size ≤ k_)) v0_ r ∧ Below w.heap.size w w' := by
 have hu32 := Try.underlying32
 have hu45 := Try.underlying45
 have HO0 := Aside0.mk (show Kd.V k32 32 w w.heap.size (fun k_ => ((P0_ k_ ∨ P1_ k_) ∨ w.heap.size ≤ k_)) (.slice A0 l0.length c0) l0 from Kd.V_mono hs0 (fun k_ hk => .inl (.inl hk)))
 have HO1 := Aside0.mk (show Kd.V k45 45 w w.heap.size (fun k_ => ((P0_ k_ ∨ P1_ k_) ∨ w.heap.size ≤ k_)) (.slice A1 l1.length c1) l1 from Kd.V_mono hs1 (fun k_ hk => .inl (.inr hk)))
 have HB := Aside0.mk (Below.refl w.heap.size w)
 have H : (hushlaw2_keyed.l0 k l1 ([] : List (S45)) l0 (l0.length : Int) 0) = some r := h
 clear h
 have H' := Aside0.mk H
 clear H
 go_enter Try.func38, Try.ntmps38
 go_wp2
 go_loopg [5, 13] k (fun kq v5 v13 w' => ∃ (x5_1 : List (S45)) (x13_1 : Int), v13 = .int .i64 x13_1 ∧ Aside0 (hushlaw2_keyed.l0 kq l1 x5_1 l0 (l0.length : Int) x13_1 = some r) ∧ Aside0 (kq ≤ k) ∧ Aside0 (Kd.V k45 45 w' w.heap.size (fun k_ => ((P0_ k_ ∨ P1_ k_) ∨ w.heap.size ≤ k_) ∧ some k_ ≠ (v5 : Value).ownBlock) (.slice A1 l1.length c1) l1) ∧ Aside0 (Kd.N k45 45 w' w.heap.size (fun k_ => ((P0_ k_ ∨ P1_ k_) ∨ w.heap.size ≤ k_)) v5 x5_1) ∧ Aside0 (Kd.V k32 32 w' w.heap.size (fun k_ => ((P0_ k_ ∨ P1_ k_) ∨ w.heap.size ≤ k_) ∧ some k_ ≠ (v5 : Value).ownBlock) (.slice A0 l0.length c0) l0) ∧ Aside0 (Below w.heap.size w w'))
 case atStart => exact ⟨(([] : List (S45))), (0), rfl, H', ⟨Nat.le_refl _⟩, ⟨by (with_reducible repeat (first | apply Kd.V_alloc | apply Kd.V_drewN | apply Kd.V_drew)); exact Kd.V_mono HO1.out (fun _ hk => ⟨hk, (by simp [Value.ownBlock])⟩)⟩, ⟨by exact Kd.N_nil _ _ _ _ _⟩, ⟨by (with_reducible repeat (first | apply Kd.V_alloc | apply Kd.V_drewN | apply Kd.V_drew)); exact Kd.V_mono HO0.out (fun _ hk => ⟨hk, (by simp [Value.ownBlock])⟩)⟩, ⟨HB.out⟩⟩
 case round =>
  clear H'
  obtain ⟨x5_1, x13_1, rfl, HA, HK1, HO_1, HO_5, HO_11, HB⟩ := hrel
  cases gk with
  | zero => exact absurd HA.out (by simp [hushlaw2_keyed.l0])
  | succ k1 =>
   have H := HA.out
   clear HA
   simp only [hushlaw2_keyed.l0] at H
   by_cases c3 : x13_1 < (l0.length : Int)
   ·
    rw [if_pos c3] at H
    have c3b0 : decide (x13_1 < (l0.length : Int)) = true := decide_eq_true c3
    clear c3
    by_cases c4 : 0 ≤ x13_1
    ·
     rw [if_pos c4] at H
     have c4b0 : decide (0 ≤ x13_1) = true := decide_eq_true c4
     clear c4
     by_cases c5 : x13_1 < (l0.length : Int)
     ·
      rw [if_pos c5] at H
      have c5b0 : decide (x13_1 < (l0.length : Int)) = true := decide_eq_true c5
      clear c5
      obtain ⟨t221, A6, H⟩ := bnd_ H
      have H' := Aside0.mk H
      clear H
      have p219 : 0 ≤ (x13_1 : Int) := of_decide_eq_true (by (with_reducible assumption))
      have q219 : x13_1 < (l0.length : Int) := of_decide_eq_true (by (with_reducible assumption))
      obtain ⟨ad219, A219_0, c219_0, e219, hx219_0, hx219_1, hl219_0, hi219_0⟩ := at_T32 (Kd.V_reads' HO_11.out).2.2 x13_1 p219 q219
      cases e219
      obtain ⟨ce219, hce219, hMe219, hcc219⟩ := Kd.V_get HO_11.out z32 x13_1 p219 (by exact q219)
      obtain ⟨ua219_0, uc219_0, rfl, ul219_0, ge219_0⟩ := k32_openF hMe219
      have hv219_0 := hcc219 0 _ rfl
      rw [Nat.add_zero] at hv219_0
      replace hv219_0 := Option.some.inj (hv219_0.symm.trans hx219_0)
      injection hv219_0 with hva_ hvn_ hvc_
      rw [hva_] at ge219_0
      rw [hvc_] at ul219_0
      have HL219_0 := Aside0.mk (show Kd.V (Kd.int .i64) 3 _ w.heap.size _ _ ((rd_T32 l0 x13_1).f0) from Kd.V_mk ul219_0 ge219_0)
      clear hva_ hvn_ hvc_ ge219_0 ul219_0
      clear hcc219 hce219
      have HR219_0 := Aside0.mk hi219_0
      have HC219_0 := Aside0.mk hl219_0
      clear hi219_0 hl219_0
      replace p219 := eq_true p219
      replace q219 := eq_true q219
      go_wp2_with (first | ((with_reducible refine gate_dst (N := 7) rfl ?_); refine box_event ?hg (N := 7) ?hd (cs := #[.slice none 0 0, .int .i64 0]) (t := 32) ?hr ?_; (case hd | hg => rfl); (case hr => go_simp; done); intro gb220 hg w7 hbox hb; replace HO_1 := Aside0.mk (Kd.V_below (Kd.V_elderB (by (with_reducible repeat (first | apply Kd.V_alloc | apply Kd.V_drewN | apply Kd.V_drew)); exact HO_1.out) gb220 (Nat.le_of_eq hg.symm)) hb); replace HO_5 := Aside0.mk (Kd.N_below (Kd.N_elderB (by (with_reducible repeat (first | apply Kd.N_alloc | apply Kd.N_drewN | apply Kd.N_drew)); exact HO_5.out) gb220 (Nat.le_of_eq hg.symm)) hb); replace HO_11 := Aside0.mk (Kd.V_below (Kd.V_elderB (by (with_reducible repeat (first | apply Kd.V_alloc | apply Kd.V_drewN | apply Kd.V_drew)); exact HO_11.out) gb220 (Nat.le_of_eq hg.symm)) hb); replace HR219_0 := Aside0.mk (Kd.C_below (Kd.V_reads' HL219_0.out).2.2 hb); replace HL219_0 := Aside0.mk (Kd.V_below (Kd.V_elderB (by (with_reducible repeat (first | apply Kd.V_alloc | apply Kd.V_drewN | apply Kd.V_drew)); exact HL219_0.out) gb220 (Nat.le_of_eq hg.symm)) hb); have BK220 := Aside0.mk (hbox); have GW220 := gw_ HB.out hg; have GE220 := gw_ HB.out hg; replace HB := Aside0.mk (below_step HB.out hb); clear hb hbox hg; have hcz8_0 := cz0_ BK220; have hcz8_1 := cz1_ BK220; have hfz8_0 := blk_frozen BK220.out 0; have hfz8_1 := blk_frozen BK220.out 1) | ((with_reducible refine gate_store (t := 32) (p := 7) rfl ?_); refine store_event (t := 32) (p := 7) (v := ?vo_w9) (w1 := ((w7.setCell ⟨gb220, 0, none⟩ (.slice A219_0 ((rd_T32 l0 x13_1).f0).length c219_0)).setCell ⟨gb220, 1, none⟩ (.int .i64 ((rd_T32 l0 x13_1).f1)))) ?hg ?ho ?hn ?hr ?_; (case ho => rfl); (case hg => rfl); (case hn => rfl); (case hr => go_simp; done); intro w9 hw; have n0_ : Aside0 (Kd.V k45 45 w9 w.heap.size (fun k_ => ((P0_ k_ ∨ P1_ k_) ∨ w.heap.size ≤ k_) ∧ some k_ ≠ (u5 : Value).ownBlock ∧ k_ ≠ gb220) (.slice A1 l1.length c1) l1) := ⟨(by rw [hw]; exact (by (with_reducible repeat (first | apply Kd.V_alloc | apply Kd.V_drewN | apply Kd.V_drew)); exact Kd.V_mono (Kd.V_far (p := ⟨gb220, 1, none⟩) (Kd.V_far (p := ⟨gb220, 0, none⟩) (Kd.V_mono HO_1.out (fun k_ hk => (⟨hk, hk.2⟩ : _ ∧ k_ ≠ gb220))) (fun _ hk => hk.2) (.slice A219_0 ((rd_T32 l0 x13_1).f0).length c219_0)) (fun _ hk => hk.2) (.int .i64 ((rd_T32 l0 x13_1).f1))) (fun _ hk => ⟨hk.1.1.1, ⟨hk.1.1.2, hk.1.2⟩⟩)))⟩; have n1_ : Aside0 (Kd.N k45 45 w9 w.heap.size (fun k_ => ((P0_ k_ ∨ P1_ k_) ∨ w.heap.size ≤ k_) ∧ k_ ≠ gb220) u5 x5_1) := ⟨(by rw [hw]; exact (by (with_reducible repeat (first | apply Kd.N_alloc | apply Kd.N_drewN | apply Kd.N_drew)); exact Kd.N_mono (Kd.N_far (p := ⟨gb220, 1, none⟩) (Kd.N_far (p := ⟨gb220, 0, none⟩) (Kd.N_mono HO_5.out (fun k_ hk => (⟨hk, hk.2⟩ : _ ∧ k_ ≠ gb220))) (fun _ hk => hk.2) (.slice A219_0 ((rd_T32 l0 x13_1).f0).length c219_0)) (fun _ hk => hk.2) (.int .i64 ((rd_T32 l0 x13_1).f1))) (fun _ hk => ⟨hk.1.1, hk.1.2⟩)))⟩; have n2_ : Aside0 (Kd.V k32 32 w9 w.heap.size (fun k_ => ((P0_ k_ ∨ P1_ k_) ∨ w.heap.size ≤ k_) ∧ some k_ ≠ (u5 : Value).ownBlock ∧ k_ ≠ gb220) (.slice (some ad219) l0.length c0) l0) := ⟨(by rw [hw]; exact (by (with_reducible repeat (first | apply Kd.V_alloc | apply Kd.V_drewN | apply Kd.V_drew)); exact Kd.V_mono (Kd.V_far (p := ⟨gb220, 1, none⟩) (Kd.V_far (p := ⟨gb220, 0, none⟩) (Kd.V_mono HO_11.out (fun k_ hk => (⟨hk, hk.2⟩ : _ ∧ k_ ≠ gb220))) (fun _ hk => hk.2) (.slice A219_0 ((rd_T32 l0 x13_1).f0).length c219_0)) (fun _ hk => hk.2) (.int .i64 ((rd_T32 l0 x13_1).f1))) (fun _ hk => ⟨hk.1.1.1, ⟨hk.1.1.2, hk.1.2⟩⟩)))⟩; have n3_ : Aside0 (Kd.V (Kd.int .i64) 3 w9 w.heap.size (fun k_ => ((P0_ k_ ∨ P1_ k_) ∨ w.heap.size ≤ k_) ∧ some k_ ≠ (u5 : Value).ownBlock ∧ k_ ≠ gb220) (.slice A219_0 ((rd_T32 l0 x13_1).f0).length c219_0) ((rd_T32 l0 x13_1).f0)) := ⟨(by rw [hw]; exact (by (with_reducible repeat (first | apply Kd.V_alloc | apply Kd.V_drewN | apply Kd.V_drew)); exact Kd.V_mono (Kd.V_far (p := ⟨gb220, 1, none⟩) (Kd.V_far (p := ⟨gb220, 0, none⟩) (Kd.V_mono HL219_0.out (fun k_ hk => (⟨hk, hk.2⟩ : _ ∧ k_ ≠ gb220))) (fun _ hk => hk.2) (.slice A219_0 ((rd_T32 l0 x13_1).f0).length c219_0)) (fun _ hk => hk.2) (.int .i64 ((rd_T32 l0 x13_1).f1))) (fun _ hk => ⟨hk.1.1.1, ⟨hk.1.1.2, hk.1.2⟩⟩)))⟩; have n4_ : Aside0 (w9.heap[gb220]? = some (.cells #[.slice A219_0 ((rd_T32 l0 x13_1).f0).length c219_0, .int .i64 ((rd_T32 l0 x13_1).f1)] 32 (0, 0))) := ⟨(by rw [hw]; exact (by (with_reducible repeat (first | refine blk_drewN ?_ _ | refine blk_drew ?_ | refine blk_alloc ?_ _)); refine blk_put (cs := #[.slice A219_0 ((rd_T32 l0 x13_1).f0).length c219_0, .int .i64 0]) ?_ 1 _ rfl; (with_reducible repeat (first | refine blk_drewN ?_ _ | refine blk_drew ?_ | refine blk_alloc ?_ _)); refine blk_put (cs := #[.slice none 0 0, .int .i64 0]) ?_ 0 _ rfl; (with_reducible repeat (first | refine blk_drewN ?_ _ | refine blk_drew ?_ | refine blk_alloc ?_ _)); exact BK220.out))⟩; have n5_ : Aside0 (Below w.heap.size w w9) := ⟨(by rw [hw]; exact (by repeat (with_reducible first | exact HB.out | refine below_set ?_ GE220.out)))⟩; clear hw; clear HO_1; clear HO_5; clear HO_11; clear HL219_0; clear BK220; clear HB; have HO_1 := n0_; have HO_5 := n1_; have HO_11 := n2_; have HL219_0 := n3_; have BK220 := n4_; have HB := n5_; clear n0_ n1_ n2_ n3_ n4_ n5_; have hcz10_0 := cz0_ BK220; have hcz10_1 := cz1_ BK220; have hfz10_0 := blk_frozen BK220.out 0; have hfz10_1 := blk_frozen BK220.out 1) | ((with_reducible refine gate_callee (f := 22) rfl ?_); refine goesL_ (some 21) rfl rfl Try.func22 (by kernel_rfl) rfl #[.slice A1 l1.length c1, .slice A219_0 ((rd_T32 l0 x13_1).f0).length c219_0] rfl (by (try simp only [List.map_toArray, List.map_cons, List.map_nil]); rfl) ?_; (with_reducible refine (plain_Then.calls k1 (fun k_ => (((P0_ k_ ∨ P1_ k_) ∨ w.heap.size ≤ k_) ∧ (some k_ ≠ (u5 : Value).ownBlock ∧ k_ ≠ gb220))) _ _ l1 (fun k_ => (((P0_ k_ ∨ P1_ k_) ∨ w.heap.size ≤ k_) ∧ (some k_ ≠ (u5 : Value).ownBlock ∧ k_ ≠ gb220))) _ _ ((rd_T32 l0 x13_1).f0) t221 _ ?side1 ?side2 A6.out).mono ?_); (case side1 => exact HO_1.out); (case side2 => exact HL219_0.out); rintro e w11 ⟨v222, rfl, ho0, hb⟩; refine ⟨_, rfl, ?_⟩; replace HO_1 := Aside0.mk (Kd.V_below (by (with_reducible repeat (first | apply Kd.V_alloc | apply Kd.V_drewN | apply Kd.V_drew)); exact HO_1.out) hb); replace HO_11 := Aside0.mk (Kd.V_below (by (with_reducible repeat (first | apply Kd.V_alloc | apply Kd.V_drewN | apply Kd.V_drew)); exact HO_11.out) hb); have HO223 := Aside0.mk (Kd.V_lower (Kd.V_mono (ok' := fun k_ => ((P0_ k_ ∨ P1_ k_) ∨ w.heap.size ≤ k_) ∧ some k_ ≠ (u5 : Value).ownBlock ∧ k_ ≠ gb220) ho0 (fun k_ hk_ => ⟨Or.elim hk_ (fun hs_ => Or.elim hs_ (fun hs_ => hs_.1) (fun hs_ => hs_.1)) (fun hn_ => (.inr (Nat.le_trans (below_size HB.out) hn_))), Or.elim hk_ (fun hs_ => Or.elim hs_ (fun hs_ => hs_.2.1) (fun hs_ => hs_.2.1)) (fun hn_ => (Kd.fresh' (Kd.N_lt (by (with_reducible repeat (first | apply Kd.N_alloc | apply Kd.N_drewN | apply Kd.N_drew)); exact HO_5.out)) k_ hn_)), Or.elim hk_ (fun hs_ => Or.elim hs_ (fun hs_ => hs_.2.2) (fun hs_ => hs_.2.2)) (fun hn_ => (Kd.freshB (g := gb220) (o := .cells #[.slice A219_0 ((rd_T32 l0 x13_1).f0).length c219_0, .int .i64 ((rd_T32 l0 x13_1).f1)] 32 (0, 0)) (by (with_reducible repeat (first | refine blk_drewN ?_ _ | refine blk_drew ?_ | refine blk_alloc ?_ _)); exact BK220.out) k_ hn_))⟩)) (below_size HB.out)); replace HO_5 := Aside0.mk (Kd.N_below (by (with_reducible repeat (first | apply Kd.N_alloc | apply Kd.N_drewN | apply Kd.N_drew)); exact HO_5.out) hb); replace HR219_0 := Aside0.mk (Kd.C_below (Kd.V_reads' HL219_0.out).2.2 hb); replace HL219_0 := Aside0.mk (Kd.V_below (by (with_reducible repeat (first | apply Kd.V_alloc | apply Kd.V_drewN | apply Kd.V_drew)); exact HL219_0.out) hb); replace BK220 := Aside0.mk (blk_below (g := gb220) (o := .cells #[.slice A219_0 ((rd_T32 l0 x13_1).f0).length c219_0, .int .i64 ((rd_T32 l0 x13_1).f1)] 32 (0, 0)) (by (with_reducible repeat (first | refine blk_drewN ?_ _ | refine blk_drew ?_ | refine blk_alloc ?_ _)); exact BK220.out) hb); replace HB := Aside0.mk (below_step HB.out hb); (try clear hb); (try clear ho0); obtain ⟨Ao12, co12, eo12⟩ := Kd.V_slice HO223.out; subst eo12))
      go_loopg [8, 23] k1 (fun kq v8 v23 w' => ∃ (x8_2 : List (S32)) (x23_2 : Int), v23 = .int .i64 x23_2 ∧ Aside0 (hushlaw2_keyed.l1 kq l1 x5_1 x13_1 x8_2 l0 (l0.length : Int) x13_1 t221 (t221.length : Int) x23_2 ((rd_T32 l0 x13_1).f0) ((rd_T32 l0 x13_1).f1) = some r) ∧ Aside0 (kq ≤ k1) ∧ Aside0 (Kd.V k45 45 w' w.heap.size (fun k_ => ((P0_ k_ ∨ P1_ k_) ∨ w.heap.size ≤ k_) ∧ some k_ ≠ (u5 : Value).ownBlock ∧ some k_ ≠ (v8 : Value).ownBlock ∧ k_ ≠ gb220) (.slice A1 l1.length c1) l1) ∧ Aside0 (Kd.N k45 45 w' w.heap.size (fun k_ => ((P0_ k_ ∨ P1_ k_) ∨ w.heap.size ≤ k_) ∧ some k_ ≠ (v8 : Value).ownBlock ∧ k_ ≠ gb220) u5 x5_1) ∧ Aside0 (Kd.N k32 32 w' w.heap.size (fun k_ => ((P0_ k_ ∨ P1_ k_) ∨ w.heap.size ≤ k_) ∧ some k_ ≠ (u5 : Value).ownBlock ∧ k_ ≠ gb220) v8 x8_2) ∧ Aside0 (Kd.V k32 32 w' w.heap.size (fun k_ => ((P0_ k_ ∨ P1_ k_) ∨ w.heap.size ≤ k_) ∧ some k_ ≠ (u5 : Value).ownBlock ∧ some k_ ≠ (v8 : Value).ownBlock ∧ k_ ≠ gb220) (.slice (some ad219) l0.length c0) l0) ∧ Aside0 (Kd.V k32 32 w' w.heap.size (fun k_ => ((P0_ k_ ∨ P1_ k_) ∨ w.heap.size ≤ k_) ∧ some k_ ≠ (u5 : Value).ownBlock ∧ some k_ ≠ (v8 : Value).ownBlock ∧ k_ ≠ gb220) (.slice Ao12 t221.length co12) t221) ∧ Aside0 (Kd.V (Kd.int .i64) 3 w' w.heap.size (fun k_ => ((P0_ k_ ∨ P1_ k_) ∨ w.heap.size ≤ k_) ∧ some k_ ≠ (u5 : Value).ownBlock ∧ some k_ ≠ (v8 : Value).ownBlock ∧ k_ ≠ gb220) (.slice A219_0 ((rd_T32 l0 x13_1).f0).length c219_0) ((rd_T32 l0 x13_1).f0)) ∧ Aside0 (w'.heap[gb220]? = some (.cells #[(.slice A219_0 ((rd_T32 l0 x13_1).f0).length c219_0), .int .i64 ((rd_T32 l0 x13_1).f1)] 32 (0, 0))) ∧ Aside0 (Below w.heap.size w w'))
      case atStart => exact ⟨(([] : List (S32))), (0), rfl, H', ⟨Nat.le_refl _⟩, ⟨by (with_reducible repeat (first | apply Kd.V_alloc | apply Kd.V_drewN | apply Kd.V_drew)); exact Kd.V_mono HO_1.out (fun _ hk => ⟨hk.1, ⟨hk.2.1, ⟨(by simp [Value.ownBlock]), hk.2.2⟩⟩⟩)⟩, ⟨by (with_reducible repeat (first | apply Kd.N_alloc | apply Kd.N_drewN | apply Kd.N_drew)); exact Kd.N_mono HO_5.out (fun _ hk => ⟨hk.1, ⟨(by simp [Value.ownBlock]), hk.2⟩⟩)⟩, ⟨by exact Kd.N_nil _ _ _ _ _⟩, ⟨by (with_reducible repeat (first | apply Kd.V_alloc | apply Kd.V_drewN | apply Kd.V_drew)); exact Kd.V_mono HO_11.out (fun _ hk => ⟨hk.1, ⟨hk.2.1, ⟨(by simp [Value.ownBlock]), hk.2.2⟩⟩⟩)⟩, ⟨by (with_reducible repeat (first | apply Kd.V_alloc | apply Kd.V_drewN | apply Kd.V_drew)); exact Kd.V_mono HO223.out (fun _ hk => ⟨hk.1, ⟨hk.2.1, ⟨(by simp [Value.ownBlock]), hk.2.2⟩⟩⟩)⟩, ⟨by (with_reducible repeat (first | apply Kd.V_alloc | apply Kd.V_drewN | apply Kd.V_drew)); exact Kd.V_mono HL219_0.out (fun _ hk => ⟨hk.1, ⟨hk.2.1, ⟨(by simp [Value.ownBlock]), hk.2.2⟩⟩⟩)⟩, ⟨by (with_reducible repeat (first | refine blk_drewN ?_ _ | refine blk_drew ?_ | refine blk_alloc ?_ _)); exact BK220.out⟩, ⟨HB.out⟩⟩
      case round =>
       clear H'
       try clear c3b0
       try clear c4b0
       try clear c5b0
       try clear hcz10_0
       try clear hcz10_1
       try clear hcz8_0
       try clear hcz8_1
       try clear hfz10_0
       try clear hfz10_1
       try clear hfz8_0
       try clear hfz8_1
       try clear hx219_0
       try clear hx219_1
       try clear p219
       try clear q219
       obtain ⟨x8_2, x23_2, rfl, HA, HK2, HO_1, HO_5, HO_8, HO_11, HO_21, HO_221000, BK220, HB⟩ := hrel
       cases gk with
       | zero => exact absurd HA.out (by simp [hushlaw2_keyed.l1])
       | succ k2 =>
        have H := HA.out
        clear HA
        simp only [hushlaw2_keyed.l1] at H
        by_cases c13 : x23_2 < (t221.length : Int)
        ·
         rw [if_pos c13] at H
         have c13b0 : decide (x23_2 < (t221.length : Int)) = true := decide_eq_true c13
         clear c13
         by_cases c14 : 0 ≤ x23_2
         ·
          rw [if_pos c14] at H
          have c14b0 : decide (0 ≤ x23_2) = true := decide_eq_true c14
          clear c14
          by_cases c15 : x23_2 < (t221.length : Int)
          ·
           rw [if_pos c15] at H
           have c15b0 : decide (x23_2 < (t221.length : Int)) = true := decide_eq_true c15
           clear c15
           obtain ⟨y226, hy226⟩ : ∃ y_ : List Int, y_ = (([x13_1] : List Int)) := ⟨_, rfl⟩
           replace H : (if y226.length + ((rd_T32 t221 x23_2).f0).length < 17592186044416 then (if x8_2.length < 4398046511104 then (hushlaw2_keyed.l1 k2 l1 x5_1 x13_1 (x8_2 ++ [(⟨(y226 ++ ((rd_T32 t221 x23_2).f0)), (rd_T32 t221 x23_2).f1⟩ : S32)]) l0 (l0.length : Int) x13_1 t221 (t221.length : Int) (wrap64 (x23_2 + 1)) ((rd_T32 l0 x13_1).f0) ((rd_T32 l0 x13_1).f1)) else (none)) else (none)) = some r := by (have H2_ := (Option.bind_some _ _).symm.trans H; rw [hy226]; with_reducible exact H2_)
           have Ny226 := Aside0.mk hy226
           clear hy226
           by_cases c16 : y226.length + ((rd_T32 t221 x23_2).f0).length < 17592186044416
           ·
            rw [if_pos c16] at H
            have LMc16 := Aside0.mk c16
            clear c16
            obtain ⟨y229, hy229⟩ : ∃ y_ : List Int, y_ = (y226 ++ ((rd_T32 t221 x23_2).f0)) := ⟨_, rfl⟩
            replace H : (if x8_2.length < 4398046511104 then (hushlaw2_keyed.l1 k2 l1 x5_1 x13_1 (x8_2 ++ [(⟨y229, (rd_T32 t221 x23_2).f1⟩ : S32)]) l0 (l0.length : Int) x13_1 t221 (t221.length : Int) (wrap64 (x23_2 + 1)) ((rd_T32 l0 x13_1).f0) ((rd_T32 l0 x13_1).f1)) else (none)) = some r := by (rw [hy229]; with_reducible exact H)
            have Ny229 := Aside0.mk hy229
            clear hy229
            by_cases c17 : x8_2.length < 4398046511104
            ·
             rw [if_pos c17] at H
             have LMc17 := Aside0.mk c17
             clear c17
             obtain ⟨y232, hy232⟩ : ∃ y_ : List (S32), y_ = (x8_2 ++ [(⟨y229, (rd_T32 t221 x23_2).f1⟩ : S32)]) := ⟨_, rfl⟩
             replace H : (hushlaw2_keyed.l1 k2 l1 x5_1 x13_1 y232 l0 (l0.length : Int) x13_1 t221 (t221.length : Int) (wrap64 (x23_2 + 1)) ((rd_T32 l0 x13_1).f0) ((rd_T32 l0 x13_1).f1)) = some r := by (rw [hy232]; with_reducible exact H)
             have Ny232 := Aside0.mk hy232
             clear hy232
             have H' := Aside0.mk H
             clear H
             have p224 : 0 ≤ (x23_2 : Int) := of_decide_eq_true (by (with_reducible assumption))
             have q224 : x23_2 < (t221.length : Int) := of_decide_eq_true (by (with_reducible assumption))
             obtain ⟨ad224, A224_0, c224_0, e224, hx224_0, hx224_1, hl224_0, hi224_0⟩ := at_T32 (Kd.V_reads' HO_21.out).2.2 x23_2 p224 q224
             cases e224
             obtain ⟨ce224, hce224, hMe224, hcc224⟩ := Kd.V_get HO_21.out z32 x23_2 p224 (by exact q224)
             obtain ⟨ua224_0, uc224_0, rfl, ul224_0, ge224_0⟩ := k32_openF hMe224
             have hv224_0 := hcc224 0 _ rfl
             rw [Nat.add_zero] at hv224_0
             replace hv224_0 := Option.some.inj (hv224_0.symm.trans hx224_0)
             injection hv224_0 with hva_ hvn_ hvc_
             rw [hva_] at ge224_0
             rw [hvc_] at ul224_0
             have HL224_0 := Aside0.mk (show Kd.V (Kd.int .i64) 3 _ w.heap.size _ _ ((rd_T32 t221 x23_2).f0) from Kd.V_mk ul224_0 ge224_0)
             clear hva_ hvn_ hvc_ ge224_0 ul224_0
             clear hcc224 hce224
             have HR224_0 := Aside0.mk hi224_0
             have HC224_0 := Aside0.mk hl224_0
             clear hi224_0 hl224_0
             replace p224 := eq_true p224
             replace q224 := eq_true q224
             try go_wp2_with (((with_reducible refine gate_dst (N := 10) rfl ?_); refine box_event ?hg (N := 10) ?hd (cs := #[.slice none 0 0, .int .i64 0]) (t := 32) ?hr ?_; (case hd | hg => rfl); (case hr => go_simp; done); intro gb225 hg w18 hbox hb; replace HO_1 := Aside0.mk (Kd.V_below (Kd.V_elderB (by (with_reducible repeat (first | apply Kd.V_alloc | apply Kd.V_drewN | apply Kd.V_drew)); exact HO_1.out) gb225 (Nat.le_of_eq hg.symm)) hb); replace HO_5 := Aside0.mk (Kd.N_below (Kd.N_elderB (by (with_reducible repeat (first | apply Kd.N_alloc | apply Kd.N_drewN | apply Kd.N_drew)); exact HO_5.out) gb225 (Nat.le_of_eq hg.symm)) hb); replace HO_8 := Aside0.mk (Kd.N_below (Kd.N_elderB (by (with_reducible repeat (first | apply Kd.N_alloc | apply Kd.N_drewN | apply Kd.N_drew)); exact HO_8.out) gb225 (Nat.le_of_eq hg.symm)) hb); replace HO_11 := Aside0.mk (Kd.V_below (Kd.V_elderB (by (with_reducible repeat (first | apply Kd.V_alloc | apply Kd.V_drewN | apply Kd.V_drew)); exact HO_11.out) gb225 (Nat.le_of_eq hg.symm)) hb); replace HO_21 := Aside0.mk (Kd.V_below (Kd.V_elderB (by (with_reducible repeat (first | apply Kd.V_alloc | apply Kd.V_drewN | apply Kd.V_drew)); exact HO_21.out) gb225 (Nat.le_of_eq hg.symm)) hb); replace HO_221000 := Aside0.mk (Kd.V_below (Kd.V_elderB (by (with_reducible repeat (first | apply Kd.V_alloc | apply Kd.V_drewN | apply Kd.V_drew)); exact HO_221000.out) gb225 (Nat.le_of_eq hg.symm)) hb); replace HR224_0 := Aside0.mk (Kd.C_below (Kd.V_reads' HL224_0.out).2.2 hb); replace HL224_0 := Aside0.mk (Kd.V_below (Kd.V_elderB (by (with_reducible repeat (first | apply Kd.V_alloc | apply Kd.V_drewN | apply Kd.V_drew)); exact HL224_0.out) gb225 (Nat.le_of_eq hg.symm)) hb); have BK225 := Aside0.mk (hbox); have GW225 := gw_ HB.out hg; have GE225 := gw_ HB.out hg; replace HB := Aside0.mk (below_step HB.out hb); have NB220_225 := Aside0.mk ((by rw [hg]; exact Nat.ne_of_lt (blk_lt (g := gb220) (o := .cells #[.slice A219_0 ((rd_T32 l0 x13_1).f0).length c219_0, .int .i64 ((rd_T32 l0 x13_1).f1)] 32 (0, 0)) (by (with_reducible repeat (first | refine blk_drewN ?_ _ | refine blk_drew ?_ | refine blk_alloc ?_ _)); exact BK220.out)) : gb220 ≠ gb225)); have NB225_220 := Aside0.mk ((by rw [hg]; exact Nat.ne_of_gt (blk_lt (g := gb220) (o := .cells #[.slice A219_0 ((rd_T32 l0 x13_1).f0).length c219_0, .int .i64 ((rd_T32 l0 x13_1).f1)] 32 (0, 0)) (by (with_reducible repeat (first | refine blk_drewN ?_ _ | refine blk_drew ?_ | refine blk_alloc ?_ _)); exact BK220.out)) : gb225 ≠ gb220)); replace BK220 := Aside0.mk (blk_below (g := gb220) (o := .cells #[.slice A219_0 ((rd_T32 l0 x13_1).f0).length c219_0, .int .i64 ((rd_T32 l0 x13_1).f1)] 32 (0, 0)) (by (with_reducible repeat (first | refine blk_drewN ?_ _ | refine blk_drew ?_ | refine blk_alloc ?_ _)); exact BK220.out) hb); clear hb hbox hg; have hnb19 := NB225_220.out; have hnc19 := NB220_225.out; have hcz20_0 := cz0_ BK225; have hcz20_1 := cz1_ BK225; have hfz20_0 := blk_frozen BK225.out 0; have hfz20_1 := blk_frozen BK225.out 1))
             have n0_ : Aside0 (Kd.V k45 45 ((w18.setCell ⟨gb225, 0, none⟩ (.slice A224_0 ((rd_T32 t221 x23_2).f0).length c224_0)).setCell ⟨gb225, 1, none⟩ (.int .i64 ((rd_T32 t221 x23_2).f1))) w.heap.size (fun k_ => ((P0_ k_ ∨ P1_ k_) ∨ w.heap.size ≤ k_) ∧ some k_ ≠ (u5 : Value).ownBlock ∧ some k_ ≠ (u8 : Value).ownBlock ∧ k_ ≠ gb220 ∧ k_ ≠ gb225) (.slice A1 l1.length c1) l1) := ⟨by (with_reducible repeat (first | apply Kd.V_alloc | apply Kd.V_drewN | apply Kd.V_drew)); exact Kd.V_mono (Kd.V_far (p := ⟨gb225, 1, none⟩) (Kd.V_far (p := ⟨gb225, 0, none⟩) (Kd.V_mono HO_1.out (fun k_ hk => (⟨hk, hk.2⟩ : _ ∧ k_ ≠ gb225))) (fun _ hk => hk.2) (.slice A224_0 ((rd_T32 t221 x23_2).f0).length c224_0)) (fun _ hk => hk.2) (.int .i64 ((rd_T32 t221 x23_2).f1))) (fun _ hk => ⟨hk.1.1.1, ⟨hk.1.1.2.1, ⟨hk.1.1.2.2.1, ⟨hk.1.1.2.2.2, hk.1.2⟩⟩⟩⟩)⟩
             have n1_ : Aside0 (Kd.N k45 45 ((w18.setCell ⟨gb225, 0, none⟩ (.slice A224_0 ((rd_T32 t221 x23_2).f0).length c224_0)).setCell ⟨gb225, 1, none⟩ (.int .i64 ((rd_T32 t221 x23_2).f1))) w.heap.size (fun k_ => ((P0_ k_ ∨ P1_ k_) ∨ w.heap.size ≤ k_) ∧ some k_ ≠ (u8 : Value).ownBlock ∧ k_ ≠ gb220 ∧ k_ ≠ gb225) u5 x5_1) := ⟨by (with_reducible repeat (first | apply Kd.N_alloc | apply Kd.N_drewN | apply Kd.N_drew)); exact Kd.N_mono (Kd.N_far (p := ⟨gb225, 1, none⟩) (Kd.N_far (p := ⟨gb225, 0, none⟩) (Kd.N_mono HO_5.out (fun k_ hk => (⟨hk, hk.2⟩ : _ ∧ k_ ≠ gb225))) (fun _ hk => hk.2) (.slice A224_0 ((rd_T32 t221 x23_2).f0).length c224_0)) (fun _ hk => hk.2) (.int .i64 ((rd_T32 t221 x23_2).f1))) (fun _ hk => ⟨hk.1.1.1, ⟨hk.1.1.2.1, ⟨hk.1.1.2.2, hk.1.2⟩⟩⟩)⟩
             have n2_ : Aside0 (Kd.N k32 32 ((w18.setCell ⟨gb225, 0, none⟩ (.slice A224_0 ((rd_T32 t221 x23_2).f0).length c224_0)).setCell ⟨gb225, 1, none⟩ (.int .i64 ((rd_T32 t221 x23_2).f1))) w.heap.size (fun k_ => ((P0_ k_ ∨ P1_ k_) ∨ w.heap.size ≤ k_) ∧ some k_ ≠ (u5 : Value).ownBlock ∧ k_ ≠ gb220 ∧ k_ ≠ gb225) u8 x8_2) := ⟨by (with_reducible repeat (first | apply Kd.N_alloc | apply Kd.N_drewN | apply Kd.N_drew)); exact Kd.N_mono (Kd.N_far (p := ⟨gb225, 1, none⟩) (Kd.N_far (p := ⟨gb225, 0, none⟩) (Kd.N_mono HO_8.out (fun k_ hk => (⟨hk, hk.2⟩ : _ ∧ k_ ≠ gb225))) (fun _ hk => hk.2) (.slice A224_0 ((rd_T32 t221 x23_2).f0).length c224_0)) (fun _ hk => hk.2) (.int .i64 ((rd_T32 t221 x23_2).f1))) (fun _ hk => ⟨hk.1.1.1, ⟨hk.1.1.2.1, ⟨hk.1.1.2.2, hk.1.2⟩⟩⟩)⟩
             have n3_ : Aside0 (Kd.V k32 32 ((w18.setCell ⟨gb225, 0, none⟩ (.slice A224_0 ((rd_T32 t221 x23_2).f0).length c224_0)).setCell ⟨gb225, 1, none⟩ (.int .i64 ((rd_T32 t221 x23_2).f1))) w.heap.size (fun k_ => ((P0_ k_ ∨ P1_ k_) ∨ w.heap.size ≤ k_) ∧ some k_ ≠ (u5 : Value).ownBlock ∧ some k_ ≠ (u8 : Value).ownBlock ∧ k_ ≠ gb220 ∧ k_ ≠ gb225) (.slice (some ad219) l0.length c0) l0) := ⟨by (with_reducible repeat (first | apply Kd.V_alloc | apply Kd.V_drewN | apply Kd.V_drew)); exact Kd.V_mono (Kd.V_far (p := ⟨gb225, 1, none⟩) (Kd.V_far (p := ⟨gb225, 0, none⟩) (Kd.V_mono HO_11.out (fun k_ hk => (⟨hk, hk.2⟩ : _ ∧ k_ ≠ gb225))) (fun _ hk => hk.2) (.slice A224_0 ((rd_T32 t221 x23_2).f0).length c224_0)) (fun _ hk => hk.2) (.int .i64 ((rd_T32 t221 x23_2).f1))) (fun _ hk => ⟨hk.1.1.1, ⟨hk.1.1.2.1, ⟨hk.1.1.2.2.1, ⟨hk.1.1.2.2.2, hk.1.2⟩⟩⟩⟩)⟩
             have n4_ : Aside0 (Kd.V k32 32 ((w18.setCell ⟨gb225, 0, none⟩ (.slice A224_0 ((rd_T32 t221 x23_2).f0).length c224_0)).setCell ⟨gb225, 1, none⟩ (.int .i64 ((rd_T32 t221 x23_2).f1))) w.heap.size (fun k_ => ((P0_ k_ ∨ P1_ k_) ∨ w.heap.size ≤ k_) ∧ some k_ ≠ (u5 : Value).ownBlock ∧ some k_ ≠ (u8 : Value).ownBlock ∧ k_ ≠ gb220 ∧ k_ ≠ gb225) (.slice (some ad224) t221.length co12) t221) := ⟨by (with_reducible repeat (first | apply Kd.V_alloc | apply Kd.V_drewN | apply Kd.V_drew)); exact Kd.V_mono (Kd.V_far (p := ⟨gb225, 1, none⟩) (Kd.V_far (p := ⟨gb225, 0, none⟩) (Kd.V_mono HO_21.out (fun k_ hk => (⟨hk, hk.2⟩ : _ ∧ k_ ≠ gb225))) (fun _ hk => hk.2) (.slice A224_0 ((rd_T32 t221 x23_2).f0).length c224_0)) (fun _ hk => hk.2) (.int .i64 ((rd_T32 t221 x23_2).f1))) (fun _ hk => ⟨hk.1.1.1, ⟨hk.1.1.2.1, ⟨hk.1.1.2.2.1, ⟨hk.1.1.2.2.2, hk.1.2⟩⟩⟩⟩)⟩
             have n5_ : Aside0 (Kd.V (Kd.int .i64) 3 ((w18.setCell ⟨gb225, 0, none⟩ (.slice A224_0 ((rd_T32 t221 x23_2).f0).length c224_0)).setCell ⟨gb225, 1, none⟩ (.int .i64 ((rd_T32 t221 x23_2).f1))) w.heap.size (fun k_ => ((P0_ k_ ∨ P1_ k_) ∨ w.heap.size ≤ k_) ∧ some k_ ≠ (u5 : Value).ownBlock ∧ some k_ ≠ (u8 : Value).ownBlock ∧ k_ ≠ gb220 ∧ k_ ≠ gb225) (.slice A219_0 ((rd_T32 l0 x13_1).f0).length c219_0) ((rd_T32 l0 x13_1).f0)) := ⟨by (with_reducible repeat (first | apply Kd.V_alloc | apply Kd.V_drewN | apply Kd.V_drew)); exact Kd.V_mono (Kd.V_far (p := ⟨gb225, 1, none⟩) (Kd.V_far (p := ⟨gb225, 0, none⟩) (Kd.V_mono HO_221000.out (fun k_ hk => (⟨hk, hk.2⟩ : _ ∧ k_ ≠ gb225))) (fun _ hk => hk.2) (.slice A224_0 ((rd_T32 t221 x23_2).f0).length c224_0)) (fun _ hk => hk.2) (.int .i64 ((rd_T32 t221 x23_2).f1))) (fun _ hk => ⟨hk.1.1.1, ⟨hk.1.1.2.1, ⟨hk.1.1.2.2.1, ⟨hk.1.1.2.2.2, hk.1.2⟩⟩⟩⟩)⟩
             have n6_ : Aside0 (Kd.V (Kd.int .i64) 3 ((w18.setCell ⟨gb225, 0, none⟩ (.slice A224_0 ((rd_T32 t221 x23_2).f0).length c224_0)).setCell ⟨gb225, 1, none⟩ (.int .i64 ((rd_T32 t221 x23_2).f1))) w.heap.size (fun k_ => ((P0_ k_ ∨ P1_ k_) ∨ w.heap.size ≤ k_) ∧ some k_ ≠ (u5 : Value).ownBlock ∧ some k_ ≠ (u8 : Value).ownBlock ∧ k_ ≠ gb220 ∧ k_ ≠ gb225) (.slice A224_0 ((rd_T32 t221 x23_2).f0).length c224_0) ((rd_T32 t221 x23_2).f0)) := ⟨by (with_reducible repeat (first | apply Kd.V_alloc | apply Kd.V_drewN | apply Kd.V_drew)); exact Kd.V_mono (Kd.V_far (p := ⟨gb225, 1, none⟩) (Kd.V_far (p := ⟨gb225, 0, none⟩) (Kd.V_mono HL224_0.out (fun k_ hk => (⟨hk, hk.2⟩ : _ ∧ k_ ≠ gb225))) (fun _ hk => hk.2) (.slice A224_0 ((rd_T32 t221 x23_2).f0).length c224_0)) (fun _ hk => hk.2) (.int .i64 ((rd_T32 t221 x23_2).f1))) (fun _ hk => ⟨hk.1.1.1, ⟨hk.1.1.2.1, ⟨hk.1.1.2.2.1, ⟨hk.1.1.2.2.2, hk.1.2⟩⟩⟩⟩)⟩
             have n7_ : Aside0 (((w18.setCell ⟨gb225, 0, none⟩ (.slice A224_0 ((rd_T32 t221 x23_2).f0).length c224_0)).setCell ⟨gb225, 1, none⟩ (.int .i64 ((rd_T32 t221 x23_2).f1))).heap[gb220]? = some (.cells #[.slice A219_0 ((rd_T32 l0 x13_1).f0).length c219_0, .int .i64 ((rd_T32 l0 x13_1).f1)] 32 (0, 0))) := ⟨by (with_reducible repeat (first | refine blk_drewN ?_ _ | refine blk_drew ?_ | refine blk_alloc ?_ _)); refine blk_far ?_ NB220_225.out _; (with_reducible repeat (first | refine blk_drewN ?_ _ | refine blk_drew ?_ | refine blk_alloc ?_ _)); refine blk_far ?_ NB220_225.out _; (with_reducible repeat (first | refine blk_drewN ?_ _ | refine blk_drew ?_ | refine blk_alloc ?_ _)); exact BK220.out⟩
             have n8_ : Aside0 (((w18.setCell ⟨gb225, 0, none⟩ (.slice A224_0 ((rd_T32 t221 x23_2).f0).length c224_0)).setCell ⟨gb225, 1, none⟩ (.int .i64 ((rd_T32 t221 x23_2).f1))).heap[gb225]? = some (.cells #[.slice A224_0 ((rd_T32 t221 x23_2).f0).length c224_0, .int .i64 ((rd_T32 t221 x23_2).f1)] 32 (0, 0))) := ⟨by (with_reducible repeat (first | refine blk_drewN ?_ _ | refine blk_drew ?_ | refine blk_alloc ?_ _)); refine blk_put (cs := #[.slice A224_0 ((rd_T32 t221 x23_2).f0).length c224_0, .int .i64 0]) ?_ 1 _ rfl; (with_reducible repeat (first | refine blk_drewN ?_ _ | refine blk_drew ?_ | refine blk_alloc ?_ _)); refine blk_put (cs := #[.slice none 0 0, .int .i64 0]) ?_ 0 _ rfl; (with_reducible repeat (first | refine blk_drewN ?_ _ | refine blk_drew ?_ | refine blk_alloc ?_ _)); exact BK225.out⟩
             have n9_ : Aside0 (Below w.heap.size w ((w18.setCell ⟨gb225, 0, none⟩ (.slice A224_0 ((rd_T32 t221 x23_2).f0).length c224_0)).setCell ⟨gb225, 1, none⟩ (.int .i64 ((rd_T32 t221 x23_2).f1)))) := ⟨by repeat (with_reducible first | exact HB.out | refine below_set ?_ GE225.out)⟩
             (try clear HO_1)
             (try clear HO_5)
             (try clear HO_8)
             (try clear HO_11)
             (try clear HO_21)
             (try clear HO_221000)
             (try clear HL224_0)
             (try clear BK220)
             (try clear BK225)
             (try clear HB)
             generalize ((w18.setCell ⟨gb225, 0, none⟩ (.slice A224_0 ((rd_T32 t221 x23_2).f0).length c224_0)).setCell ⟨gb225, 1, none⟩ (.int .i64 ((rd_T32 t221 x23_2).f1))) = w21 at n0_ n1_ n2_ n3_ n4_ n5_ n6_ n7_ n8_ n9_ ⊢
             have HO_1 := n0_
             have HO_5 := n1_
             have HO_8 := n2_
             have HO_11 := n3_
             have HO_21 := n4_
             have HO_221000 := n5_
             have HL224_0 := n6_
             have BK220 := n7_
             have BK225 := n8_
             have HB := n9_
             clear n0_ n1_ n2_ n3_ n4_ n5_ n6_ n7_ n8_ n9_
             replace HO_1 := Aside0.mk (Kd.V_drew HO_1.out)
             replace HO_5 := Aside0.mk (Kd.N_drew HO_5.out)
             replace HO_8 := Aside0.mk (Kd.N_drew HO_8.out)
             replace HO_11 := Aside0.mk (Kd.V_drew HO_11.out)
             replace HO_21 := Aside0.mk (Kd.V_drew HO_21.out)
             replace HO_221000 := Aside0.mk (Kd.V_drew HO_221000.out)
             replace HL224_0 := Aside0.mk (Kd.V_drew HL224_0.out)
             replace BK220 := Aside0.mk (blk_drew BK220.out)
             replace BK225 := Aside0.mk (blk_drew BK225.out)
             replace HB := Aside0.mk (below_drew1 HB.out)
             refine start_ (n := 12) (S := fun w' => w'.cell? ⟨gb225, 0, none⟩ = some (.slice A224_0 ((rd_T32 t221 x23_2).f0).length c224_0) ∧ w'.cell? ⟨gb225, 1, none⟩ = some (.int .i64 ((rd_T32 t221 x23_2).f1))) (ds := []) #[false, false, false, false, false, false, false, false, false, false, false, false] (by kernel_rfl) rfl rfl ⟨(blk_cell BK225.out 0).trans rfl, (blk_cell BK225.out 1).trans rfl⟩ (fun hHeld => ?_); refine with_tabW hushlaw2_keyed.tab9 hushlaw2_keyed.bits9 (fun HT_ HW_ => ?_)
             generalize w21.drew = w22 at HO_1 HO_5 HO_8 HO_11 HO_21 HO_221000 HL224_0 BK220 BK225 HB hHeld ⊢
             refine pure_ (i := 0) (N := some 27) #[true, false, false, false, false, false, false, false, false, false, false, false] rfl rfl (any_of HT_.out (by kernel_rfl)) (fun _ _ _ h => h) (Or.inl ⟨rfl, by intro w'; go_simp; with_reducible rfl⟩) (by simp only [Act.put, List.setIfInBounds_toArray, List.set_cons_zero, List.set_cons_succ, i64_w, i32_w]; rfl) ?_
             refine pure_ (i := 1) (N := some 28) #[true, true, false, false, false, false, false, false, false, false, false, false] rfl rfl (any_of HT_.out (by kernel_rfl)) (fun _ _ _ h => h) (Or.inl ⟨rfl, by intro w'; go_simp; with_reducible rfl⟩) (by simp only [Act.put, List.setIfInBounds_toArray, List.set_cons_zero, List.set_cons_succ, i64_w, i32_w]; rfl) ?_
             refine pure_ (i := 3) (N := some 30) #[true, true, false, true, false, false, false, false, false, false, false, false] rfl rfl (any_of HT_.out (by kernel_rfl)) (fun _ _ _ h => h) (Or.inl ⟨rfl, by intro w'; go_simp; with_reducible rfl⟩) (by simp only [Act.put, List.setIfInBounds_toArray, List.set_cons_zero, List.set_cons_succ, i64_w, i32_w]; rfl) ?_
             refine pure_ (i := 6) (N := some 33) #[true, true, false, true, false, false, true, false, false, false, false, false] rfl rfl (any_of HT_.out (by kernel_rfl)) (fun _ _ _ h => h) (Or.inl ⟨rfl, by intro w'; go_simp; with_reducible rfl⟩) (by simp only [Act.put, List.setIfInBounds_toArray, List.set_cons_zero, List.set_cons_succ, i64_w, i32_w]; rfl) ?_
             refine take_ (i := 4) (N := some 31) #[true, true, false, true, true, false, true, false, false, false, false, false] rfl rfl (take_ofW HT_.out HW_.out (by kernel_rfl)) (fun _ _ _ h => h) (Or.inl ⟨rfl, by rintro w' ⟨s0, s1⟩; go_simp; with_reducible rfl⟩) hHeld (by simp only [Act.put, List.setIfInBounds_toArray, List.set_cons_zero, List.set_cons_succ, i64_w, i32_w]; rfl) ?_
             refine take_ (i := 7) (N := some 34) #[true, true, false, true, true, false, true, true, false, false, false, false] rfl rfl (take_ofW HT_.out HW_.out (by kernel_rfl)) (fun _ _ _ h => h) (Or.inl ⟨rfl, by rintro w' ⟨s0, s1⟩; go_simp; with_reducible rfl⟩) hHeld (by simp only [Act.put, List.setIfInBounds_toArray, List.set_cons_zero, List.set_cons_succ, i64_w, i32_w]; rfl) ?_
             refine one_ (i := 2) (N := some 29) #[true, true, true, true, true, false, true, true, false, false, false, false] rfl rfl (one_of HT_.out (by kernel_rfl)) (by decide) (fun K hK => ?_)
             refine Kd.R_lit_step (Kd.int .i64) _ 3 ?hg (N := 29) ?hd (xs := ([x13_1] : List Int)) (inner := [.int .i64 x13_1]) (ok := fun _ => True) (okp := fun _ => True) ?hr ?hp (fun _ hk => hk) trivial (Below.refl _ _) (Nat.le_refl _) (by simp) ?_; (case hd | hg => rfl); (case hr => go_simp; done); (case hp => exact (Reps.one (show Kd.M (Kd.int .i64) _ _ _ x13_1 [.int .i64 x13_1] from rfl) (Reps.none _ _)))
             intro v227 w23 ho24 hb hg_ hnew_
             clear hg_ hnew_
             (rw [← Ny226.out] at ho24)
             replace HO_1 := Aside0.mk (Kd.V_elder' (by (with_reducible repeat (first | apply Kd.V_alloc | apply Kd.V_drewN | apply Kd.V_drew)); exact HO_1.out) (Kd.R_base ho24) hb)
             replace HO_5 := Aside0.mk (Kd.N_elder' (by (with_reducible repeat (first | apply Kd.N_alloc | apply Kd.N_drewN | apply Kd.N_drew)); exact HO_5.out) (Kd.R_base ho24) hb)
             replace HO_8 := Aside0.mk (Kd.N_elder' (by (with_reducible repeat (first | apply Kd.N_alloc | apply Kd.N_drewN | apply Kd.N_drew)); exact HO_8.out) (Kd.R_base ho24) hb)
             replace HO_11 := Aside0.mk (Kd.V_elder' (by (with_reducible repeat (first | apply Kd.V_alloc | apply Kd.V_drewN | apply Kd.V_drew)); exact HO_11.out) (Kd.R_base ho24) hb)
             replace HO_21 := Aside0.mk (Kd.V_elder' (by (with_reducible repeat (first | apply Kd.V_alloc | apply Kd.V_drewN | apply Kd.V_drew)); exact HO_21.out) (Kd.R_base ho24) hb)
             replace HO_221000 := Aside0.mk (Kd.V_elder' (by (with_reducible repeat (first | apply Kd.V_alloc | apply Kd.V_drewN | apply Kd.V_drew)); exact HO_221000.out) (Kd.R_base ho24) hb)
             replace HL224_0 := Aside0.mk (Kd.V_elder' (by (with_reducible repeat (first | apply Kd.V_alloc | apply Kd.V_drewN | apply Kd.V_drew)); exact HL224_0.out) (Kd.R_base ho24) hb)
             have HO228 := Aside0.mk (Kd.R_lower (Kd.R_newM (M := fun k_ => (w.heap.size ≤ k_)) ho24 (below_size HB.out) (fun k_ h_ => h_)) (below_size HB.out))
             replace BK220 := Aside0.mk (blk_below (g := gb220) (o := .cells #[.slice A219_0 ((rd_T32 l0 x13_1).f0).length c219_0, .int .i64 ((rd_T32 l0 x13_1).f1)] 32 (0, 0)) (by (with_reducible repeat (first | refine blk_drewN ?_ _ | refine blk_drew ?_ | refine blk_alloc ?_ _)); exact BK220.out) hb)
             replace BK225 := Aside0.mk (blk_below (g := gb225) (o := .cells #[.slice A224_0 ((rd_T32 t221 x23_2).f0).length c224_0, .int .i64 ((rd_T32 t221 x23_2).f1)] 32 (0, 0)) (by (with_reducible repeat (first | refine blk_drewN ?_ _ | refine blk_drew ?_ | refine blk_alloc ?_ _)); exact BK225.out) hb)
             replace HB := Aside0.mk (below_step HB.out hb)
             clear hb ho24
             refine hK.out _ _ ⟨(blk_cell BK225.out 0).trans rfl, (blk_cell BK225.out 1).trans rfl⟩ (fun hHeld => ?_)
             clear hK K
             refine norm_ (a' := ?_) ?_ ?_
             rotate_left
             ·
              show Act.put _ (some 29) _ = _
              simp only [Act.put, List.setIfInBounds_toArray, List.set_cons_zero, List.set_cons_succ, i64_w, i32_w]
              rfl
             refine one_ (i := 5) (N := some 32) #[true, true, true, true, true, true, true, true, false, false, false, false] rfl rfl (one_of HT_.out (by kernel_rfl)) (by decide) (fun K hK => ?_)
             refine Kd.R_append_rows_step (Kd.int .i64) (w0 := w) w.heap.size rfl (.tmp 29) (.tmp 31) 24 3 (.int .i64 0) 8 rfl Try.underlying24 info3 rfl (by decide) (by omega) v227 y226 ((rd_T32 t221 x23_2).f0) _ _ _ (fun k_ => (w.heap.size ≤ k_)) (fun _ => False) rfl rfl ?aO ?aR (fun _ _ h => h) (fun _ h => h.elim) ?aF ?aB ?aS ?aL ?_
             (case aR => repeat ((exact ((Kd.V_reads' (by (with_reducible repeat (first | apply Kd.V_alloc | apply Kd.V_drewN | apply Kd.V_drew)); exact HL224_0.out)).2.2))))
             (case aB => exact HB.out)
             (case aF => exact (fun k_ hk => (Nat.le_trans (below_size HB.out) hk)))
             (case aO => exact (by (with_reducible repeat (first | apply Kd.R_alloc | apply Kd.R_drewN | apply Kd.R_drew)); exact Kd.R_mono HO228.out (fun _ hk => hk.1)))
             (case aS => exact (below_size HB.out))
             (case aL => have := LMc16.out; omega)
             intro v230 w25 ho hb hg hat
             rw [← Ny229.out] at ho
             replace HO_1 := Aside0.mk (Kd.V_afterv (ok := (fun k_ => ((P0_ k_ ∨ P1_ k_) ∨ w.heap.size ≤ k_) ∧ some k_ ≠ (u5 : Value).ownBlock ∧ some k_ ≠ (u8 : Value).ownBlock ∧ k_ ≠ gb220 ∧ k_ ≠ gb225)) (by (with_reducible repeat (first | apply Kd.V_alloc | apply Kd.V_drewN | apply Kd.V_drew)); exact HO_1.out) hg hat)
             replace HO_5 := Aside0.mk (Kd.N_afterv (ok := (fun k_ => ((P0_ k_ ∨ P1_ k_) ∨ w.heap.size ≤ k_) ∧ some k_ ≠ (u8 : Value).ownBlock ∧ k_ ≠ gb220 ∧ k_ ≠ gb225)) (by (with_reducible repeat (first | apply Kd.N_alloc | apply Kd.N_drewN | apply Kd.N_drew)); exact HO_5.out) hg hat)
             replace HO_8 := Aside0.mk (Kd.N_afterv (ok := (fun k_ => ((P0_ k_ ∨ P1_ k_) ∨ w.heap.size ≤ k_) ∧ some k_ ≠ (u5 : Value).ownBlock ∧ k_ ≠ gb220 ∧ k_ ≠ gb225)) (by (with_reducible repeat (first | apply Kd.N_alloc | apply Kd.N_drewN | apply Kd.N_drew)); exact HO_8.out) hg hat)
             replace HO_11 := Aside0.mk (Kd.V_afterv (ok := (fun k_ => ((P0_ k_ ∨ P1_ k_) ∨ w.heap.size ≤ k_) ∧ some k_ ≠ (u5 : Value).ownBlock ∧ some k_ ≠ (u8 : Value).ownBlock ∧ k_ ≠ gb220 ∧ k_ ≠ gb225)) (by (with_reducible repeat (first | apply Kd.V_alloc | apply Kd.V_drewN | apply Kd.V_drew)); exact HO_11.out) hg hat)
             replace HO_21 := Aside0.mk (Kd.V_afterv (ok := (fun k_ => ((P0_ k_ ∨ P1_ k_) ∨ w.heap.size ≤ k_) ∧ some k_ ≠ (u5 : Value).ownBlock ∧ some k_ ≠ (u8 : Value).ownBlock ∧ k_ ≠ gb220 ∧ k_ ≠ gb225)) (by (with_reducible repeat (first | apply Kd.V_alloc | apply Kd.V_drewN | apply Kd.V_drew)); exact HO_21.out) hg hat)
             replace HO_221000 := Aside0.mk (Kd.V_afterv (ok := (fun k_ => ((P0_ k_ ∨ P1_ k_) ∨ w.heap.size ≤ k_) ∧ some k_ ≠ (u5 : Value).ownBlock ∧ some k_ ≠ (u8 : Value).ownBlock ∧ k_ ≠ gb220 ∧ k_ ≠ gb225)) (by (with_reducible repeat (first | apply Kd.V_alloc | apply Kd.V_drewN | apply Kd.V_drew)); exact HO_221000.out) hg hat)
             replace BK220 := Aside0.mk (blk_grown (g := gb220) (o := .cells #[.slice A219_0 ((rd_T32 l0 x13_1).f0).length c219_0, .int .i64 ((rd_T32 l0 x13_1).f1)] 32 (0, 0)) (by (with_reducible repeat (first | refine blk_drewN ?_ _ | refine blk_drew ?_ | refine blk_alloc ?_ _)); exact BK220.out) hg (Kd.R_ne HO228.out BK220.out (by decide)))
             replace HL224_0 := Aside0.mk (Kd.V_afterv (ok := (fun k_ => ((P0_ k_ ∨ P1_ k_) ∨ w.heap.size ≤ k_) ∧ some k_ ≠ (u5 : Value).ownBlock ∧ some k_ ≠ (u8 : Value).ownBlock ∧ k_ ≠ gb220 ∧ k_ ≠ gb225)) (by (with_reducible repeat (first | apply Kd.V_alloc | apply Kd.V_drewN | apply Kd.V_drew)); exact HL224_0.out) hg hat)
             replace BK225 := Aside0.mk (blk_grown (g := gb225) (o := .cells #[.slice A224_0 ((rd_T32 t221 x23_2).f0).length c224_0, .int .i64 ((rd_T32 t221 x23_2).f1)] 32 (0, 0)) (by (with_reducible repeat (first | refine blk_drewN ?_ _ | refine blk_drew ?_ | refine blk_alloc ?_ _)); exact BK225.out) hg (Kd.R_ne HO228.out BK225.out (by decide)))
             replace HB := Aside0.mk (hb)
             have HO231 := Aside0.mk (ho)
             clear HO228
             clear ho hb hg hat
             obtain ⟨Ao26, co26, eo26⟩ := Kd.R_slice HO231.out
             (subst eo26)
             refine hK.out _ _ ⟨(blk_cell BK225.out 0).trans rfl, (blk_cell BK225.out 1).trans rfl⟩ (fun hHeld => ?_)
             clear hK K
             refine norm_ (a' := ?_) ?_ ?_
             rotate_left
             ·
              show Act.put _ (some 32) _ = _
              simp only [Act.put, List.setIfInBounds_toArray, List.set_cons_zero, List.set_cons_succ, i64_w, i32_w]
              rfl
             refine pure_ (i := 8) (N := some 35) #[true, true, true, true, true, true, true, true, true, false, false, false] rfl rfl (any_of HT_.out (by kernel_rfl)) (fun _ _ _ h => h) (Or.inl ⟨rfl, by intro w'; go_simp; with_reducible rfl⟩) (by simp only [Act.put, List.setIfInBounds_toArray, List.set_cons_zero, List.set_cons_succ, i64_w, i32_w]; rfl) ?_
             refine one_ (i := 9) (N := some 36) #[true, true, true, true, true, true, true, true, true, true, false, false] rfl rfl (one_of HT_.out (by kernel_rfl)) (by decide) (fun K hK => ?_)
             refine value_ (w1 := ?_) (v := ?_) rfl rfl ?_ ?_
             rotate_left 2
             ·
              go_simp
              constructor
              ·
               rfl
              ·
               rfl
             refine hK.out _ _ ⟨(blk_cell (blk_alloc BK225.out _) 0).trans rfl, (blk_cell (blk_alloc BK225.out _) 1).trans rfl⟩ (fun hHeld => ?_)
             clear hK K
             refine norm_ (a' := ?_) ?_ ?_
             rotate_left
             ·
              show Act.put _ (some 36) _ = _
              simp only [Act.put, List.setIfInBounds_toArray, List.set_cons_zero, List.set_cons_succ, i64_w, i32_w]
              rfl
             refine one_ (i := 10) (N := some 37) #[true, true, true, true, true, true, true, true, true, true, true, false] rfl rfl (one_of HT_.out (by kernel_rfl)) (by decide) (fun K hK => ?_)
             refine Kd.N_append_step k32 (w0 := w) w.heap.size rfl (.tmp 27) (.tmp 36) 23 32 (.agg #[(.slice none 0 0), (.int .i64 0)]) 32 rfl Try.underlying23 info32 rfl (by decide) (by omega) u8 x8_2 (⟨y229, (rd_T32 t221 x23_2).f1⟩ : S32) [.slice Ao26 y229.length co26, .int .i64 ((rd_T32 t221 x23_2).f1)] (fun k_ => ((P0_ k_ ∨ P1_ k_) ∨ w.heap.size ≤ k_) ∧ some k_ ≠ (u5 : Value).ownBlock ∧ k_ ≠ gb220 ∧ k_ ≠ gb225) (fun k_ => ((fun k_ => ((P0_ k_ ∨ P1_ k_) ∨ w.heap.size ≤ k_) ∧ some k_ ≠ (u5 : Value).ownBlock ∧ k_ ≠ gb220 ∧ k_ ≠ gb225)) k_ ∧ some k_ ≠ (u8 : Value).ownBlock) rfl rfl ?aP (fun _ hk => hk) ?aF ?aO ?aB ?aS ?aL ?_
             (case aP => exact (k32_mkF _ _ (⟨y229, (rd_T32 t221 x23_2).f1⟩ : S32) (Kd.R_reads' (Kd.R_mono (ok' := (fun k_ => ((fun k_ => ((P0_ k_ ∨ P1_ k_) ∨ w.heap.size ≤ k_) ∧ some k_ ≠ (u5 : Value).ownBlock ∧ k_ ≠ gb220 ∧ k_ ≠ gb225)) k_ ∧ some k_ ≠ (u8 : Value).ownBlock)) (Kd.R_types (Kd.R_types (Kd.R_apart' (Kd.R_apart' (HO231.out) (Kd.N_typed HO_5.out) (by decide)) (Kd.N_typed HO_8.out) (by decide)) BK220.out (by decide)) BK225.out (by decide)) (fun k_ hk => ⟨⟨(.inr (hk.1.1.1.1)), ⟨hk.1.1.1.2, ⟨hk.1.2, hk.2⟩⟩⟩, hk.1.1.2⟩))).2.1 (Kd.R_F (Kd.R_mono (ok' := (fun k_ => ((fun k_ => ((P0_ k_ ∨ P1_ k_) ∨ w.heap.size ≤ k_) ∧ some k_ ≠ (u5 : Value).ownBlock ∧ k_ ≠ gb220 ∧ k_ ≠ gb225)) k_ ∧ some k_ ≠ (u8 : Value).ownBlock)) (Kd.R_types (Kd.R_types (Kd.R_apart' (Kd.R_apart' (HO231.out) (Kd.N_typed HO_5.out) (by decide)) (Kd.N_typed HO_8.out) (by decide)) BK220.out (by decide)) BK225.out (by decide)) (fun k_ hk => ⟨⟨(.inr (hk.1.1.1.1)), ⟨hk.1.1.1.2, ⟨hk.1.2, hk.2⟩⟩⟩, hk.1.1.2⟩)))))
             (case aB => exact HB.out)
             (case aF => exact (fun k_ hk => ⟨(.inr (Nat.le_trans (below_size HB.out) hk)), Kd.fresh' (Kd.N_lt (by (with_reducible repeat (first | apply Kd.N_alloc | apply Kd.N_drewN | apply Kd.N_drew)); exact HO_5.out)) k_ hk, Kd.freshB (g := gb220) (o := .cells #[.slice A219_0 ((rd_T32 l0 x13_1).f0).length c219_0, .int .i64 ((rd_T32 l0 x13_1).f1)] 32 (0, 0)) (by (with_reducible repeat (first | refine blk_drewN ?_ _ | refine blk_drew ?_ | refine blk_alloc ?_ _)); exact BK220.out) k_ hk, Kd.freshB (g := gb225) (o := .cells #[.slice A224_0 ((rd_T32 t221 x23_2).f0).length c224_0, .int .i64 ((rd_T32 t221 x23_2).f1)] 32 (0, 0)) (by (with_reducible repeat (first | refine blk_drewN ?_ _ | refine blk_drew ?_ | refine blk_alloc ?_ _)); exact BK225.out) k_ hk⟩))
             (case aO => exact (by (with_reducible repeat (first | apply Kd.N_alloc | apply Kd.N_drewN | apply Kd.N_drew)); exact Kd.N_mono HO_8.out (fun _ hk => ⟨hk.1.1, ⟨hk.1.2.1, ⟨hk.1.2.2.1, hk.1.2.2.2⟩⟩⟩)))
             (case aS => exact (below_size HB.out))
             (case aL => have := LMc17.out; omega)
             intro v233 w27 ho hb hg hat
             rw [← Ny232.out] at ho
             replace HO_1 := Aside0.mk (Kd.V_afterv (ok := (fun k_ => ((P0_ k_ ∨ P1_ k_) ∨ w.heap.size ≤ k_) ∧ some k_ ≠ (u5 : Value).ownBlock ∧ some k_ ≠ (.slice Ao26 y229.length co26 : Value).ownBlock ∧ k_ ≠ gb220 ∧ k_ ≠ gb225)) (by (with_reducible repeat (first | apply Kd.V_alloc | apply Kd.V_drewN | apply Kd.V_drew)); exact Kd.V_mono HO_1.out (fun _ hk => ⟨⟨hk.1.1, ⟨hk.1.2.1, ⟨hk.2, ⟨hk.1.2.2.2.1, hk.1.2.2.2.2⟩⟩⟩⟩, hk.1.2.2.1⟩)) hg hat)
             replace HO_5 := Aside0.mk (Kd.N_afterv (ok := (fun k_ => ((P0_ k_ ∨ P1_ k_) ∨ w.heap.size ≤ k_) ∧ some k_ ≠ (.slice Ao26 y229.length co26 : Value).ownBlock ∧ k_ ≠ gb220 ∧ k_ ≠ gb225)) (by (with_reducible repeat (first | apply Kd.N_alloc | apply Kd.N_drewN | apply Kd.N_drew)); exact Kd.N_mono HO_5.out (fun _ hk => ⟨⟨hk.1.1, ⟨hk.2, ⟨hk.1.2.2.1, hk.1.2.2.2⟩⟩⟩, hk.1.2.1⟩)) hg hat)
             replace HO_11 := Aside0.mk (Kd.V_afterv (ok := (fun k_ => ((P0_ k_ ∨ P1_ k_) ∨ w.heap.size ≤ k_) ∧ some k_ ≠ (u5 : Value).ownBlock ∧ some k_ ≠ (.slice Ao26 y229.length co26 : Value).ownBlock ∧ k_ ≠ gb220 ∧ k_ ≠ gb225)) (by (with_reducible repeat (first | apply Kd.V_alloc | apply Kd.V_drewN | apply Kd.V_drew)); exact Kd.V_mono HO_11.out (fun _ hk => ⟨⟨hk.1.1, ⟨hk.1.2.1, ⟨hk.2, ⟨hk.1.2.2.2.1, hk.1.2.2.2.2⟩⟩⟩⟩, hk.1.2.2.1⟩)) hg hat)
             replace HO_21 := Aside0.mk (Kd.V_afterv (ok := (fun k_ => ((P0_ k_ ∨ P1_ k_) ∨ w.heap.size ≤ k_) ∧ some k_ ≠ (u5 : Value).ownBlock ∧ some k_ ≠ (.slice Ao26 y229.length co26 : Value).ownBlock ∧ k_ ≠ gb220 ∧ k_ ≠ gb225)) (by (with_reducible repeat (first | apply Kd.V_alloc | apply Kd.V_drewN | apply Kd.V_drew)); exact Kd.V_mono HO_21.out (fun _ hk => ⟨⟨hk.1.1, ⟨hk.1.2.1, ⟨hk.2, ⟨hk.1.2.2.2.1, hk.1.2.2.2.2⟩⟩⟩⟩, hk.1.2.2.1⟩)) hg hat)
             replace HO_221000 := Aside0.mk (Kd.V_afterv (ok := (fun k_ => ((P0_ k_ ∨ P1_ k_) ∨ w.heap.size ≤ k_) ∧ some k_ ≠ (u5 : Value).ownBlock ∧ some k_ ≠ (.slice Ao26 y229.length co26 : Value).ownBlock ∧ k_ ≠ gb220 ∧ k_ ≠ gb225)) (by (with_reducible repeat (first | apply Kd.V_alloc | apply Kd.V_drewN | apply Kd.V_drew)); exact Kd.V_mono HO_221000.out (fun _ hk => ⟨⟨hk.1.1, ⟨hk.1.2.1, ⟨hk.2, ⟨hk.1.2.2.2.1, hk.1.2.2.2.2⟩⟩⟩⟩, hk.1.2.2.1⟩)) hg hat)
             replace BK220 := Aside0.mk (blk_grown (g := gb220) (o := .cells #[.slice A219_0 ((rd_T32 l0 x13_1).f0).length c219_0, .int .i64 ((rd_T32 l0 x13_1).f1)] 32 (0, 0)) (by (with_reducible repeat (first | refine blk_drewN ?_ _ | refine blk_drew ?_ | refine blk_alloc ?_ _)); exact BK220.out) hg (Kd.N_away HO_8.out (fun _ hk => hk.1.2.2.1)))
             replace HL224_0 := Aside0.mk (Kd.V_afterv (ok := (fun k_ => ((P0_ k_ ∨ P1_ k_) ∨ w.heap.size ≤ k_) ∧ some k_ ≠ (u5 : Value).ownBlock ∧ some k_ ≠ (.slice Ao26 y229.length co26 : Value).ownBlock ∧ k_ ≠ gb220 ∧ k_ ≠ gb225)) (by (with_reducible repeat (first | apply Kd.V_alloc | apply Kd.V_drewN | apply Kd.V_drew)); exact Kd.V_mono HL224_0.out (fun _ hk => ⟨⟨hk.1.1, ⟨hk.1.2.1, ⟨hk.2, ⟨hk.1.2.2.2.1, hk.1.2.2.2.2⟩⟩⟩⟩, hk.1.2.2.1⟩)) hg hat)
             replace BK225 := Aside0.mk (blk_grown (g := gb225) (o := .cells #[.slice A224_0 ((rd_T32 t221 x23_2).f0).length c224_0, .int .i64 ((rd_T32 t221 x23_2).f1)] 32 (0, 0)) (by (with_reducible repeat (first | refine blk_drewN ?_ _ | refine blk_drew ?_ | refine blk_alloc ?_ _)); exact BK225.out) hg (Kd.N_away HO_8.out (fun _ hk => hk.1.2.2.2)))
             replace HB := Aside0.mk (hb)
             have HO234 := Aside0.mk (ho)
             clear HO_8 HO231
             clear ho hb hg hat
             refine hK.out _ _ ⟨(blk_cell BK225.out 0).trans rfl, (blk_cell BK225.out 1).trans rfl⟩ (fun hHeld => ?_)
             clear hK K
             refine norm_ (a' := ?_) ?_ ?_
             rotate_left
             ·
              show Act.put _ (some 37) _ = _
              simp only [Act.put, List.setIfInBounds_toArray, List.set_cons_zero, List.set_cons_succ, i64_w, i32_w]
              rfl
             refine pure_ (i := 11) (N := some 8) #[true, true, true, true, true, true, true, true, true, true, true, true] rfl rfl (any_of HT_.out (by kernel_rfl)) (fun _ _ _ h => h) (Or.inl ⟨rfl, by intro w'; go_simp; with_reducible rfl⟩) (by simp only [Act.put, List.setIfInBounds_toArray, List.set_cons_zero, List.set_cons_succ, i64_w, i32_w]; rfl) ?_
             refine done_ (done_of HT_.out (by kernel_rfl)) ?_
             try go_wp2
             go_roundg k2
             case measure => have := HK1.out; have := HK2.out; omega
             case rel => exact ⟨(y232), (wrap64 (x23_2 + 1)), rfl, H', ⟨by have := HK1.out; have := HK2.out; omega⟩, ⟨by (with_reducible repeat (first | apply Kd.V_alloc | apply Kd.V_drewN | apply Kd.V_drew)); exact Kd.V_mono HO_1.out (fun _ hk => ⟨hk.1.1, ⟨hk.1.2.1, ⟨hk.2, hk.1.2.2.2.1⟩⟩⟩)⟩, ⟨by (with_reducible repeat (first | apply Kd.N_alloc | apply Kd.N_drewN | apply Kd.N_drew)); exact Kd.N_mono HO_5.out (fun _ hk => ⟨hk.1.1, ⟨hk.2, hk.1.2.2.1⟩⟩)⟩, ⟨by (with_reducible repeat (first | apply Kd.N_alloc | apply Kd.N_drewN | apply Kd.N_drew)); exact Kd.N_mono HO234.out (fun _ hk => ⟨hk.1, ⟨hk.2.1, hk.2.2.1⟩⟩)⟩, ⟨by (with_reducible repeat (first | apply Kd.V_alloc | apply Kd.V_drewN | apply Kd.V_drew)); exact Kd.V_mono HO_11.out (fun _ hk => ⟨hk.1.1, ⟨hk.1.2.1, ⟨hk.2, hk.1.2.2.2.1⟩⟩⟩)⟩, ⟨by (with_reducible repeat (first | apply Kd.V_alloc | apply Kd.V_drewN | apply Kd.V_drew)); exact Kd.V_mono HO_21.out (fun _ hk => ⟨hk.1.1, ⟨hk.1.2.1, ⟨hk.2, hk.1.2.2.2.1⟩⟩⟩)⟩, ⟨by (with_reducible repeat (first | apply Kd.V_alloc | apply Kd.V_drewN | apply Kd.V_drew)); exact Kd.V_mono HO_221000.out (fun _ hk => ⟨hk.1.1, ⟨hk.1.2.1, ⟨hk.2, hk.1.2.2.2.1⟩⟩⟩)⟩, ⟨by (with_reducible repeat (first | refine blk_drewN ?_ _ | refine blk_drew ?_ | refine blk_alloc ?_ _)); exact BK220.out⟩, ⟨HB.out⟩⟩
            ·
             rw [if_neg c17] at H
             exact absurd H (by simp)
           ·
            rw [if_neg c16] at H
            exact absurd H (by simp)
          ·
           rw [if_neg c15] at H
           exact absurd H (by simp)
         ·
          rw [if_neg c14] at H
          exact absurd H (by simp)
        ·
         rw [if_neg c13] at H
         have c13b0 : decide (x23_2 < (t221.length : Int)) = false := decide_eq_false c13
         clear c13
         by_cases c28 : x5_1.length < 2932031007402
         ·
          rw [if_pos c28] at H
          have LMc28 := Aside0.mk c28
          clear c28
          obtain ⟨y235, hy235⟩ : ∃ y_ : List (S45), y_ = (x5_1 ++ [(⟨((rd_T32 l0 x13_1).f0), x8_2⟩ : S45)]) := ⟨_, rfl⟩
          replace H : (hushlaw2_keyed.l0 k2 l1 y235 l0 (l0.length : Int) (wrap64 (x13_1 + 1))) = some r := by (rw [hy235]; with_reducible exact H)
          have Ny235 := Aside0.mk hy235
          clear hy235
          have H' := Aside0.mk H
          clear H
          have hcz29_0 := cz0_ BK220
          have hcz29_1 := cz1_ BK220
          have hfz29_0 := blk_frozen BK220.out 0
          have hfz29_1 := blk_frozen BK220.out 1
          obtain ⟨Ao30, co30, eo30⟩ := Kd.N_slice HO_8.out
          subst eo30
          go_wp2_with (((with_reducible refine gate_builtin (b := .append) (xs := #[.tmp 39, .tmp 44]) rfl ?_); at_builtin; refine Kd.N_append k45 (w0 := w) w.heap.size rfl (.tmp 39) (.tmp 44) 40 45 (.agg #[(.slice none 0 0), (.slice none 0 0)]) 48 rfl Try.underlying40 info45 rfl (by decide) (by omega) u5 x5_1 (⟨((rd_T32 l0 x13_1).f0), x8_2⟩ : S45) [.slice A219_0 ((rd_T32 l0 x13_1).f0).length c219_0, .slice Ao30 x8_2.length co30] (fun k_ => ((P0_ k_ ∨ P1_ k_) ∨ w.heap.size ≤ k_) ∧ k_ ≠ gb220) (fun k_ => ((fun k_ => ((P0_ k_ ∨ P1_ k_) ∨ w.heap.size ≤ k_) ∧ k_ ≠ gb220)) k_ ∧ some k_ ≠ (u5 : Value).ownBlock) rfl rfl ?aP (fun _ hk => hk) ?aF ?aO ?aB ?aS ?aL ?_; (case aP => exact (k45_mkF _ _ (⟨((rd_T32 l0 x13_1).f0), x8_2⟩ : S45) (Kd.V_reads' (Kd.V_mono (ok' := (fun k_ => ((fun k_ => ((P0_ k_ ∨ P1_ k_) ∨ w.heap.size ≤ k_) ∧ k_ ≠ gb220)) k_ ∧ some k_ ≠ (u5 : Value).ownBlock)) (HO_221000.out) (fun k_ hk => ⟨⟨hk.1, hk.2.2.2⟩, hk.2.1⟩))).2.1 (Kd.V_F (Kd.V_mono (ok' := (fun k_ => ((fun k_ => ((P0_ k_ ∨ P1_ k_) ∨ w.heap.size ≤ k_) ∧ k_ ≠ gb220)) k_ ∧ some k_ ≠ (u5 : Value).ownBlock)) (HO_221000.out) (fun k_ hk => ⟨⟨hk.1, hk.2.2.2⟩, hk.2.1⟩))) (Kd.N_reads' (Kd.N_mono (ok' := (fun k_ => ((fun k_ => ((P0_ k_ ∨ P1_ k_) ∨ w.heap.size ≤ k_) ∧ k_ ≠ gb220)) k_ ∧ some k_ ≠ (u5 : Value).ownBlock)) (HO_8.out) (fun k_ hk => ⟨⟨hk.1, hk.2.2⟩, hk.2.1⟩))).2.1 (Kd.N_F (Kd.N_mono (ok' := (fun k_ => ((fun k_ => ((P0_ k_ ∨ P1_ k_) ∨ w.heap.size ≤ k_) ∧ k_ ≠ gb220)) k_ ∧ some k_ ≠ (u5 : Value).ownBlock)) (HO_8.out) (fun k_ hk => ⟨⟨hk.1, hk.2.2⟩, hk.2.1⟩))))); (case aB => exact HB.out); (case aF => exact (fun k_ hk => ⟨(.inr (Nat.le_trans (below_size HB.out) hk)), Kd.freshB (g := gb220) (o := .cells #[.slice A219_0 ((rd_T32 l0 x13_1).f0).length c219_0, .int .i64 ((rd_T32 l0 x13_1).f1)] 32 (0, 0)) (by (with_reducible repeat (first | refine blk_drewN ?_ _ | refine blk_drew ?_ | refine blk_alloc ?_ _)); exact BK220.out) k_ hk⟩)); (case aO => exact (by (with_reducible repeat (first | apply Kd.N_alloc | apply Kd.N_drewN | apply Kd.N_drew)); exact Kd.N_mono HO_5.out (fun _ hk => ⟨hk.1, hk.2.2⟩))); (case aS => exact (below_size HB.out)); (case aL => have := LMc28.out; omega); intro v236 w31 ho hb hg hat; rw [← Ny235.out] at ho; replace HO_1 := Aside0.mk (Kd.V_afterv (ok := (fun k_ => ((P0_ k_ ∨ P1_ k_) ∨ w.heap.size ≤ k_) ∧ some k_ ≠ (.slice Ao30 x8_2.length co30 : Value).ownBlock ∧ k_ ≠ gb220)) (by (with_reducible repeat (first | apply Kd.V_alloc | apply Kd.V_drewN | apply Kd.V_drew)); exact Kd.V_mono HO_1.out (fun _ hk => ⟨⟨hk.1, ⟨hk.2.2.1, hk.2.2.2⟩⟩, hk.2.1⟩)) hg hat); replace HO_11 := Aside0.mk (Kd.V_afterv (ok := (fun k_ => ((P0_ k_ ∨ P1_ k_) ∨ w.heap.size ≤ k_) ∧ some k_ ≠ (.slice Ao30 x8_2.length co30 : Value).ownBlock ∧ k_ ≠ gb220)) (by (with_reducible repeat (first | apply Kd.V_alloc | apply Kd.V_drewN | apply Kd.V_drew)); exact Kd.V_mono HO_11.out (fun _ hk => ⟨⟨hk.1, ⟨hk.2.2.1, hk.2.2.2⟩⟩, hk.2.1⟩)) hg hat); replace HO_21 := Aside0.mk (Kd.V_afterv (ok := (fun k_ => ((P0_ k_ ∨ P1_ k_) ∨ w.heap.size ≤ k_) ∧ some k_ ≠ (.slice Ao30 x8_2.length co30 : Value).ownBlock ∧ k_ ≠ gb220)) (by (with_reducible repeat (first | apply Kd.V_alloc | apply Kd.V_drewN | apply Kd.V_drew)); exact Kd.V_mono HO_21.out (fun _ hk => ⟨⟨hk.1, ⟨hk.2.2.1, hk.2.2.2⟩⟩, hk.2.1⟩)) hg hat); replace HO_221000 := Aside0.mk (Kd.V_afterv (ok := (fun k_ => ((P0_ k_ ∨ P1_ k_) ∨ w.heap.size ≤ k_) ∧ some k_ ≠ (.slice Ao30 x8_2.length co30 : Value).ownBlock ∧ k_ ≠ gb220)) (by (with_reducible repeat (first | apply Kd.V_alloc | apply Kd.V_drewN | apply Kd.V_drew)); exact Kd.V_mono HO_221000.out (fun _ hk => ⟨⟨hk.1, ⟨hk.2.2.1, hk.2.2.2⟩⟩, hk.2.1⟩)) hg hat); replace BK220 := Aside0.mk (blk_grown (g := gb220) (o := .cells #[.slice A219_0 ((rd_T32 l0 x13_1).f0).length c219_0, .int .i64 ((rd_T32 l0 x13_1).f1)] 32 (0, 0)) (by (with_reducible repeat (first | refine blk_drewN ?_ _ | refine blk_drew ?_ | refine blk_alloc ?_ _)); exact BK220.out) hg (Kd.N_ne HO_5.out BK220.out (by decide))); replace HB := Aside0.mk (hb); have HO237 := Aside0.mk (ho); clear HO_5 HO_8; clear ho hb hg hat))
          go_roundg k2
          case measure => have := HK1.out; have := HK2.out; omega
          case rel => exact ⟨(y235), (wrap64 (x13_1 + 1)), rfl, H', ⟨by have := HK1.out; have := HK2.out; omega⟩, ⟨by (with_reducible repeat (first | apply Kd.V_alloc | apply Kd.V_drewN | apply Kd.V_drew)); exact Kd.V_mono HO_1.out (fun _ hk => ⟨hk.1.1, hk.2⟩)⟩, ⟨by (with_reducible repeat (first | apply Kd.N_alloc | apply Kd.N_drewN | apply Kd.N_drew)); exact Kd.N_mono HO237.out (fun _ hk => hk.1)⟩, ⟨by (with_reducible repeat (first | apply Kd.V_alloc | apply Kd.V_drewN | apply Kd.V_drew)); exact Kd.V_mono HO_11.out (fun _ hk => ⟨hk.1.1, hk.2⟩)⟩, ⟨HB.out⟩⟩
         ·
          rw [if_neg c28] at H
          exact absurd H (by simp)
     ·
      rw [if_neg c5] at H
      exact absurd H (by simp)
    ·
     rw [if_neg c4] at H
     exact absurd H (by simp)
   ·
    rw [if_neg c3] at H
    have c3b0 : decide (x13_1 < (l0.length : Int)) = false := decide_eq_false c3
    clear c3
    obtain rfl := Option.some.inj H
    go_wp2
    go_ret
    exact ⟨_, rfl, by (with_reducible repeat (first | apply Kd.N_alloc | apply Kd.N_drewN | apply Kd.N_drew)); exact HO_5.out, HB.out⟩

end Go.Proofs.Ytkemhfhmlcljjaa.PR


/- Functions of the program in Lean, by wip/xprint.py. Conditions: in each theorem. -/
import Derived.Test.YteajcjalpofalaaPAxs
import Derived.Test.YteajcjalpofalaaPAx0
import Derived.Test.YteajcjalpofalaaPAx10
namespace Go.Proofs.Yteajcjalpofalaa.PA
open Go.RowKit Go.Proofs.YteajcjalpofalaaW.PrintWords Go.Proofs.YteajcjalpofalaaW.PrintLast Go.Proofs.YteajcjalpofalaaW.PrintMore
attribute [local go_sem] max2_int min2_int max_two min_two max_three min_three max_four min_four   -- for this text's walks alone
set_option linter.unusedVariables false
set_option linter.unusedSimpArgs false

/-! ### hushref2_least: function 84 -/
def hushref2_least.l0 : Nat → List Int → Bool → List Int → Bool → List (S56) → Int → Int → Option (List Int × Bool)
 | 0, _, _, _, _, _, _, _ => none
 | k + 1, x1, x2, x8, x9, x12, x13, x14 => if x14 < x13 then (if 0 ≤ x14 then (if x14 < (x12.length : Int) then (if ((rd_T56 x12 x14).f1) > 0 then (if x2 = true then ((hushref2_Compare.f k ((rd_T56 x12 x14).f0) x1).bind fun t166 => (if t166 > 0 then (if x9 = true then ((hushref2_Compare.f k ((rd_T56 x12 x14).f0) x8).bind fun t167 => (if t167 < 0 then (hushref2_least.l0 k x1 x2 ((rd_T56 x12 x14).f0) true x12 x13 (wrap64 (x14 + 1))) else (hushref2_least.l0 k x1 x2 x8 x9 x12 x13 (wrap64 (x14 + 1))))) else (hushref2_least.l0 k x1 x2 ((rd_T56 x12 x14).f0) true x12 x13 (wrap64 (x14 + 1)))) else (hushref2_least.l0 k x1 x2 x8 x9 x12 x13 (wrap64 (x14 + 1))))) else (if x9 = true then ((hushref2_Compare.f k ((rd_T56 x12 x14).f0) x8).bind fun t168 => (if t168 < 0 then (hushref2_least.l0 k x1 x2 ((rd_T56 x12 x14).f0) true x12 x13 (wrap64 (x14 + 1))) else (hushref2_least.l0 k x1 x2 x8 x9 x12 x13 (wrap64 (x14 + 1))))) else (hushref2_least.l0 k x1 x2 ((rd_T56 x12 x14).f0) true x12 x13 (wrap64 (x14 + 1))))) else (hushref2_least.l0 k x1 x2 x8 x9 x12 x13 (wrap64 (x14 + 1)))) else (none)) else (none)) else (some (x8, x9))
def hushref2_least.f (k : Nat) (l0 : List (S56)) (l1 : List Int) (a2 : Bool) : Option (List Int × Bool) := hushref2_least.l0 k l1 a2 ([] : List Int) false l0 (l0.length : Int) 0
theorem hushref2_least.mono_l : ∀ k, (∀ y0 y1 y2 y3 y4 y5 y6, LeO (hushref2_least.l0 k y0 y1 y2 y3 y4 y5 y6) (hushref2_least.l0 (k + 1) y0 y1 y2 y3 y4 y5 y6))
 | 0 => fun _ _ _ _ _ _ _ r h => by simp [hushref2_least.l0] at h
 | k + 1 => by
  have ih0 := hushref2_least.mono_l k
  ·
   intro y0 y1 y2 y3 y4 y5 y6
   unfold hushref2_least.l0
   repeat' first
   | (with_reducible exact ih0 _ _ _ _ _ _ _)
   | (with_reducible exact hushref2_Compare.mono _ _ _)
   | (with_reducible exact LeO.refl _)
   | (with_reducible refine LeO.ite ?_ ?_)
   | (with_reducible refine LeO.bind ?_ (fun _ => ?_))
theorem hushref2_least.mono : ∀ a0 a1 a2 k, LeO (hushref2_least.f k a0 a1 a2) (hushref2_least.f (k + 1) a0 a1 a2) := by
 intro a0 a1 a2 k
 have ih0 := hushref2_least.mono_l k
 unfold hushref2_least.f
 repeat' (with_reducible exact ih0 _ _ _ _ _ _ _)
set_option maxHeartbeats 8000000 in
set_option maxRecDepth 100000 in
theorem hushref2_least.calls (k : Nat) (P0_ : Nat → Prop) (A0 : Option Addr) (c0 : Nat) (l0 : List (S56)) (A1 : Option Addr) (c1 : Nat) (l1 : List Int) (a2 : Bool) (r1 : List Int) (r2 : Bool) (w : World) (hs0 : Kd.V k56 56 w w.heap.size (fun k_ => P0_ k_) (.slice A0 l0.length c0) l0) (hr1 : Kd.C (Kd.int .i64) w A1 l1.length l1) (hc1 : l1.length ≤ c1) (h : hushref2_least.f k l0 l1 a2 = some (r1, r2)) :
  Calls Try.prog 84 #[.slice A0 l0.length c0, .slice A1 l1.length c1, .bool a2] w fun e w' => ∃ v0_ : Value, e = .returned (.tuple #[v0_, .bool r2]) ∧ Kd.V (Kd.int .i64) 3 w' w.heap.size (fun k_ => (P0_ k_ ∨ w.heap.size ≤ k_)) v0_ r1 ∧ Below w.heap.size w w' := by
 have hu56 := Try.underlying56
 have HO0 := Aside0.mk (show Kd.V k56 56 w w.heap.size (fun k_ => (P0_ k_ ∨ w.heap.size ≤ k_)) (.slice A0 l0.length c0) l0 from Kd.V_mono hs0 (fun k_ hk => .inl hk))
 have HR1 := Aside0.mk hr1
 have HC1 := Aside0.mk hc1
 clear hr1 hc1
 have HB := Aside0.mk (Below.refl w.heap.size w)
 have H : (hushref2_least.l0 k l1 a2 ([] : List Int) false l0 (l0.length : Int) 0) = some (r1, r2) := h
 clear h
 have H' := Aside0.mk H
 clear H
 go_enter Try.func84, Try.ntmps84
 go_wp2
 go_loopg [8, 9, 14] k (fun kq v8 v9 v14 w' => ∃ (x8_1 : List Int) (x9_1 : Bool) (x14_1 : Int), v9 = .bool x9_1 ∧ v14 = .int .i64 x14_1 ∧ Aside0 (hushref2_least.l0 kq l1 a2 x8_1 x9_1 l0 (l0.length : Int) x14_1 = some (r1, r2)) ∧ Aside0 (kq ≤ k) ∧ Aside0 (Kd.V (Kd.int .i64) 3 w' w.heap.size (fun k_ => (P0_ k_ ∨ w.heap.size ≤ k_)) v8 x8_1) ∧ Aside0 (Kd.V k56 56 w' w.heap.size (fun k_ => (P0_ k_ ∨ w.heap.size ≤ k_)) (.slice A0 l0.length c0) l0) ∧ Aside0 (Below w.heap.size w w'))
 case atStart => exact ⟨(([] : List Int)), (false), (0), rfl, rfl, H', ⟨Nat.le_refl _⟩, ⟨Kd.V_mono (Kd.R_V (Kd.R_nil _ _ _ w.heap.size (fun k_ => w.heap.size ≤ k_))) (fun k_ hk => .inr hk)⟩, ⟨by (with_reducible repeat (first | apply Kd.V_alloc | apply Kd.V_drewN | apply Kd.V_drew)); exact HO0.out⟩, ⟨HB.out⟩⟩
 case round =>
  clear H'
  obtain ⟨x8_1, x9_1, x14_1, rfl, rfl, HA, HK1, HO_8, HO_12, HB⟩ := hrel
  cases gk with
  | zero => exact absurd HA.out (by simp [hushref2_least.l0])
  | succ k1 =>
   have H := HA.out
   clear HA
   simp only [hushref2_least.l0] at H
   by_cases c4 : x14_1 < (l0.length : Int)
   ·
    rw [if_pos c4] at H
    have c4b0 : decide (x14_1 < (l0.length : Int)) = true := decide_eq_true c4
    clear c4
    by_cases c5 : 0 ≤ x14_1
    ·
     rw [if_pos c5] at H
     have c5b0 : decide (0 ≤ x14_1) = true := decide_eq_true c5
     clear c5
     by_cases c6 : x14_1 < (l0.length : Int)
     ·
      rw [if_pos c6] at H
      have c6b0 : decide (x14_1 < (l0.length : Int)) = true := decide_eq_true c6
      clear c6
      by_cases c7 : ((rd_T56 l0 x14_1).f1) > 0
      ·
       rw [if_pos c7] at H
       have c7b0 : decide (0 < ((rd_T56 l0 x14_1).f1)) = true := decide_eq_true c7
       clear c7
       by_cases c8 : a2 = true
       ·
        subst c8
        rw [if_pos rfl] at H
        obtain ⟨t166, A9, H⟩ := bnd_ H
        by_cases c10 : t166 > 0
        ·
         rw [if_pos c10] at H
         have c10b0 : decide (0 < t166) = true := decide_eq_true c10
         clear c10
         by_cases c11 : x9_1 = true
         ·
          subst c11
          rw [if_pos rfl] at H
          obtain ⟨t167, A12, H⟩ := bnd_ H
          by_cases c13 : t167 < 0
          ·
           rw [if_pos c13] at H
           have c13b0 : decide (t167 < 0) = true := decide_eq_true c13
           clear c13
           have H' := Aside0.mk H
           clear H
           have p164 : 0 ≤ (x14_1 : Int) := of_decide_eq_true (by (with_reducible assumption))
           have q164 : x14_1 < (l0.length : Int) := of_decide_eq_true (by (with_reducible assumption))
           obtain ⟨ad164, A164_0, c164_0, e164, hx164_0, hx164_1, hl164_0, hi164_0⟩ := at_T56 (Kd.V_reads' HO_12.out).2.2 x14_1 p164 q164
           cases e164
           obtain ⟨ce164, hce164, hMe164, hcc164⟩ := Kd.V_get HO_12.out z56 x14_1 p164 (by exact q164)
           obtain ⟨ua164_0, uc164_0, rfl, ul164_0, ge164_0⟩ := k56_openF hMe164
           have hv164_0 := hcc164 0 _ rfl
           rw [Nat.add_zero] at hv164_0
           replace hv164_0 := Option.some.inj (hv164_0.symm.trans hx164_0)
           injection hv164_0 with hva_ hvn_ hvc_
           rw [hva_] at ge164_0
           rw [hvc_] at ul164_0
           have HL164_0 := Aside0.mk (show Kd.V (Kd.int .i64) 3 _ w.heap.size _ _ ((rd_T56 l0 x14_1).f0) from Kd.V_mk ul164_0 ge164_0)
           clear hva_ hvn_ hvc_ ge164_0 ul164_0
           clear hcc164 hce164
           have HR164_0 := Aside0.mk hi164_0
           have HC164_0 := Aside0.mk hl164_0
           clear hi164_0 hl164_0
           replace p164 := eq_true p164
           replace q164 := eq_true q164
           go_wp2_with (first | ((with_reducible refine gate_dst (N := 11) rfl ?_); refine box_event ?hg (N := 11) ?hd (cs := #[.slice none 0 0, .int .i64 0]) (t := 56) ?hr ?_; (case hd | hg => rfl); (case hr => go_simp; done); intro gb165 hg w14 hbox hb; replace HO_8 := Aside0.mk (Kd.V_below (Kd.V_elderB (by (with_reducible repeat (first | apply Kd.V_alloc | apply Kd.V_drewN | apply Kd.V_drew)); exact HO_8.out) gb165 (Nat.le_of_eq hg.symm)) hb); replace HO_12 := Aside0.mk (Kd.V_below (Kd.V_elderB (by (with_reducible repeat (first | apply Kd.V_alloc | apply Kd.V_drewN | apply Kd.V_drew)); exact HO_12.out) gb165 (Nat.le_of_eq hg.symm)) hb); replace HL164_0 := Aside0.mk (Kd.V_below (Kd.V_elderB (by (with_reducible repeat (first | apply Kd.V_alloc | apply Kd.V_drewN | apply Kd.V_drew)); exact HL164_0.out) gb165 (Nat.le_of_eq hg.symm)) hb); replace HR164_0 := Aside0.mk (Kd.C_below HR164_0.out hb); have BK165 := Aside0.mk (hbox); have GW165 := gw_ HB.out hg; have GE165 := gw_ HB.out hg; replace HB := Aside0.mk (below_step HB.out hb); clear hb hbox hg; have hcz15_0 := cz0_ BK165; have hcz15_1 := cz1_ BK165; have hfz15_0 := blk_frozen BK165.out 0; have hfz15_1 := blk_frozen BK165.out 1) | (go_at_call 23; (with_reducible refine (hushref2_Compare.calls k1 _ _ ((rd_T56 l0 x14_1).f0) _ _ l1 t166 _ ?side1 ?side2 ?side3 ?side4 A9.out).mono ?_); (case side1 => repeat ((exact ((Kd.V_reads' (by (with_reducible repeat (first | apply Kd.V_alloc | apply Kd.V_drewN | apply Kd.V_drew)); exact (Kd.V_mono (Kd.V_far (p := ⟨gb165, 1, none⟩) (Kd.V_far (p := ⟨gb165, 0, none⟩) (Kd.V_mono HL164_0.out (fun k_ hk => (⟨hk, hk.2⟩ : _ ∧ k_ ≠ gb165))) (fun _ hk => hk.2) (.slice A164_0 ((rd_T56 l0 x14_1).f0).length c164_0)) (fun _ hk => hk.2) (.int .i64 ((rd_T56 l0 x14_1).f1))) (fun _ h_ => h_.1)))).2.2)))); (case side2 => exact HC164_0.out); (case side3 => exact Kd.C_below HR1.out (by repeat (with_reducible first | exact HB.out | refine below_set ?_ GE165.out))); (case side4 => exact HC1.out); rintro e w' ⟨rfl, ⟨nd, rfl⟩⟩; obtain ⟨Ao16, co16, eo16⟩ := Kd.V_slice HO_8.out; subst eo16) | (go_at_call 23; (with_reducible refine (hushref2_Compare.calls k1 _ _ ((rd_T56 l0 x14_1).f0) _ _ x8_1 t167 _ ?side1 ?side2 ?side3 ?side4 A12.out).mono ?_); (case side1 => repeat ((exact ((Kd.V_reads' (by (with_reducible repeat (apply Kd.V_drewN)); exact (Kd.V_mono (Kd.V_far (p := ⟨gb165, 1, none⟩) (Kd.V_far (p := ⟨gb165, 0, none⟩) (Kd.V_mono HL164_0.out (fun k_ hk => (⟨hk, hk.2⟩ : _ ∧ k_ ≠ gb165))) (fun _ hk => hk.2) (.slice A164_0 ((rd_T56 l0 x14_1).f0).length c164_0)) (fun _ hk => hk.2) (.int .i64 ((rd_T56 l0 x14_1).f1))) (fun _ h_ => h_.1)))).2.2)))); (case side2 => exact HC164_0.out); (case side3 => refine (Kd.V_reads' (e := 3) (base := w.heap.size) (ok := fun k_ => ((P0_ k_ ∨ w.heap.size ≤ k_) ∧ k_ ≠ gb165)) (n := x8_1.length) (c := co16) ?_).2.2; exact (by (with_reducible repeat (apply Kd.V_drewN)); exact (Kd.V_mono (Kd.V_far (p := ⟨gb165, 1, none⟩) (Kd.V_far (p := ⟨gb165, 0, none⟩) (Kd.V_mono HO_8.out (fun k_ hk => (⟨hk, hk.2⟩ : _ ∧ k_ ≠ gb165))) (fun _ hk => hk.2) (.slice A164_0 ((rd_T56 l0 x14_1).f0).length c164_0)) (fun _ hk => hk.2) (.int .i64 ((rd_T56 l0 x14_1).f1))) (fun _ h_ => h_.1)))); (case side4 => exact (Kd.V_reads' HO_8.out).2.1); rintro e w' ⟨rfl, ⟨nd, rfl⟩⟩))
           go_roundg k1
           case measure => have := HK1.out; omega
           case rel => exact ⟨((rd_T56 l0 x14_1).f0), (true), (wrap64 (x14_1 + 1)), rfl, rfl, H', ⟨by have := HK1.out; omega⟩, ⟨by (with_reducible repeat (apply Kd.V_drewN)); exact Kd.V_mono (Kd.V_far (p := ⟨gb165, 1, none⟩) (Kd.V_far (p := ⟨gb165, 0, none⟩) (Kd.V_mono HL164_0.out (fun k_ hk => (⟨hk, hk.2⟩ : _ ∧ k_ ≠ gb165))) (fun _ hk => hk.2) (.slice A164_0 ((rd_T56 l0 x14_1).f0).length c164_0)) (fun _ hk => hk.2) (.int .i64 ((rd_T56 l0 x14_1).f1))) (fun _ hk => hk.1.1)⟩, ⟨by (with_reducible repeat (apply Kd.V_drewN)); exact Kd.V_mono (Kd.V_far (p := ⟨gb165, 1, none⟩) (Kd.V_far (p := ⟨gb165, 0, none⟩) (Kd.V_mono HO_12.out (fun k_ hk => (⟨hk, hk.2⟩ : _ ∧ k_ ≠ gb165))) (fun _ hk => hk.2) (.slice A164_0 ((rd_T56 l0 x14_1).f0).length c164_0)) (fun _ hk => hk.2) (.int .i64 ((rd_T56 l0 x14_1).f1))) (fun _ hk => hk.1.1)⟩, ⟨by repeat (with_reducible first | exact HB.out | apply pw_below_drewN | refine below_set ?_ GE165.out)⟩⟩
          ·
           rw [if_neg c13] at H
           have c13b0 : decide (t167 < 0) = false := decide_eq_false c13
           clear c13
           have H' := Aside0.mk H
           clear H
           have p164 : 0 ≤ (x14_1 : Int) := of_decide_eq_true (by (with_reducible assumption))
           have q164 : x14_1 < (l0.length : Int) := of_decide_eq_true (by (with_reducible assumption))
           obtain ⟨ad164, A164_0, c164_0, e164, hx164_0, hx164_1, hl164_0, hi164_0⟩ := at_T56 (Kd.V_reads' HO_12.out).2.2 x14_1 p164 q164
           cases e164
           obtain ⟨ce164, hce164, hMe164, hcc164⟩ := Kd.V_get HO_12.out z56 x14_1 p164 (by exact q164)
           obtain ⟨ua164_0, uc164_0, rfl, ul164_0, ge164_0⟩ := k56_openF hMe164
           have hv164_0 := hcc164 0 _ rfl
           rw [Nat.add_zero] at hv164_0
           replace hv164_0 := Option.some.inj (hv164_0.symm.trans hx164_0)
           injection hv164_0 with hva_ hvn_ hvc_
           rw [hva_] at ge164_0
           rw [hvc_] at ul164_0
           have HL164_0 := Aside0.mk (show Kd.V (Kd.int .i64) 3 _ w.heap.size _ _ ((rd_T56 l0 x14_1).f0) from Kd.V_mk ul164_0 ge164_0)
           clear hva_ hvn_ hvc_ ge164_0 ul164_0
           clear hcc164 hce164
           have HR164_0 := Aside0.mk hi164_0
           have HC164_0 := Aside0.mk hl164_0
           clear hi164_0 hl164_0
           replace p164 := eq_true p164
           replace q164 := eq_true q164
           go_wp2_with (first | ((with_reducible refine gate_dst (N := 11) rfl ?_); refine box_event ?hg (N := 11) ?hd (cs := #[.slice none 0 0, .int .i64 0]) (t := 56) ?hr ?_; (case hd | hg => rfl); (case hr => go_simp; done); intro gb165 hg w17 hbox hb; replace HO_8 := Aside0.mk (Kd.V_below (Kd.V_elderB (by (with_reducible repeat (first | apply Kd.V_alloc | apply Kd.V_drewN | apply Kd.V_drew)); exact HO_8.out) gb165 (Nat.le_of_eq hg.symm)) hb); replace HO_12 := Aside0.mk (Kd.V_below (Kd.V_elderB (by (with_reducible repeat (first | apply Kd.V_alloc | apply Kd.V_drewN | apply Kd.V_drew)); exact HO_12.out) gb165 (Nat.le_of_eq hg.symm)) hb); replace HL164_0 := Aside0.mk (Kd.V_below (Kd.V_elderB (by (with_reducible repeat (first | apply Kd.V_alloc | apply Kd.V_drewN | apply Kd.V_drew)); exact HL164_0.out) gb165 (Nat.le_of_eq hg.symm)) hb); replace HR164_0 := Aside0.mk (Kd.C_below HR164_0.out hb); have BK165 := Aside0.mk (hbox); have GW165 := gw_ HB.out hg; have GE165 := gw_ HB.out hg; replace HB := Aside0.mk (below_step HB.out hb); clear hb hbox hg; have hcz18_0 := cz0_ BK165; have hcz18_1 := cz1_ BK165; have hfz18_0 := blk_frozen BK165.out 0; have hfz18_1 := blk_frozen BK165.out 1) | (go_at_call 23; (with_reducible refine (hushref2_Compare.calls k1 _ _ ((rd_T56 l0 x14_1).f0) _ _ l1 t166 _ ?side1 ?side2 ?side3 ?side4 A9.out).mono ?_); (case side1 => repeat ((exact ((Kd.V_reads' (by (with_reducible repeat (first | apply Kd.V_alloc | apply Kd.V_drewN | apply Kd.V_drew)); exact (Kd.V_mono (Kd.V_far (p := ⟨gb165, 1, none⟩) (Kd.V_far (p := ⟨gb165, 0, none⟩) (Kd.V_mono HL164_0.out (fun k_ hk => (⟨hk, hk.2⟩ : _ ∧ k_ ≠ gb165))) (fun _ hk => hk.2) (.slice A164_0 ((rd_T56 l0 x14_1).f0).length c164_0)) (fun _ hk => hk.2) (.int .i64 ((rd_T56 l0 x14_1).f1))) (fun _ h_ => h_.1)))).2.2)))); (case side2 => exact HC164_0.out); (case side3 => exact Kd.C_below HR1.out (by repeat (with_reducible first | exact HB.out | refine below_set ?_ GE165.out))); (case side4 => exact HC1.out); rintro e w' ⟨rfl, ⟨nd, rfl⟩⟩; obtain ⟨Ao19, co19, eo19⟩ := Kd.V_slice HO_8.out; subst eo19) | (go_at_call 23; (with_reducible refine (hushref2_Compare.calls k1 _ _ ((rd_T56 l0 x14_1).f0) _ _ x8_1 t167 _ ?side1 ?side2 ?side3 ?side4 A12.out).mono ?_); (case side1 => repeat ((exact ((Kd.V_reads' (by (with_reducible repeat (apply Kd.V_drewN)); exact (Kd.V_mono (Kd.V_far (p := ⟨gb165, 1, none⟩) (Kd.V_far (p := ⟨gb165, 0, none⟩) (Kd.V_mono HL164_0.out (fun k_ hk => (⟨hk, hk.2⟩ : _ ∧ k_ ≠ gb165))) (fun _ hk => hk.2) (.slice A164_0 ((rd_T56 l0 x14_1).f0).length c164_0)) (fun _ hk => hk.2) (.int .i64 ((rd_T56 l0 x14_1).f1))) (fun _ h_ => h_.1)))).2.2)))); (case side2 => exact HC164_0.out); (case side3 => refine (Kd.V_reads' (e := 3) (base := w.heap.size) (ok := fun k_ => ((P0_ k_ ∨ w.heap.size ≤ k_) ∧ k_ ≠ gb165)) (n := x8_1.length) (c := co19) ?_).2.2; exact (by (with_reducible repeat (apply Kd.V_drewN)); exact (Kd.V_mono (Kd.V_far (p := ⟨gb165, 1, none⟩) (Kd.V_far (p := ⟨gb165, 0, none⟩) (Kd.V_mono HO_8.out (fun k_ hk => (⟨hk, hk.2⟩ : _ ∧ k_ ≠ gb165))) (fun _ hk => hk.2) (.slice A164_0 ((rd_T56 l0 x14_1).f0).length c164_0)) (fun _ hk => hk.2) (.int .i64 ((rd_T56 l0 x14_1).f1))) (fun _ h_ => h_.1)))); (case side4 => exact (Kd.V_reads' HO_8.out).2.1); rintro e w' ⟨rfl, ⟨nd, rfl⟩⟩))
           go_roundg k1
           case measure => have := HK1.out; omega
           case rel => exact ⟨(x8_1), (true), (wrap64 (x14_1 + 1)), rfl, rfl, H', ⟨by have := HK1.out; omega⟩, ⟨by (with_reducible repeat (apply Kd.V_drewN)); exact Kd.V_mono (Kd.V_far (p := ⟨gb165, 1, none⟩) (Kd.V_far (p := ⟨gb165, 0, none⟩) (Kd.V_mono HO_8.out (fun k_ hk => (⟨hk, hk.2⟩ : _ ∧ k_ ≠ gb165))) (fun _ hk => hk.2) (.slice A164_0 ((rd_T56 l0 x14_1).f0).length c164_0)) (fun _ hk => hk.2) (.int .i64 ((rd_T56 l0 x14_1).f1))) (fun _ hk => hk.1.1)⟩, ⟨by (with_reducible repeat (apply Kd.V_drewN)); exact Kd.V_mono (Kd.V_far (p := ⟨gb165, 1, none⟩) (Kd.V_far (p := ⟨gb165, 0, none⟩) (Kd.V_mono HO_12.out (fun k_ hk => (⟨hk, hk.2⟩ : _ ∧ k_ ≠ gb165))) (fun _ hk => hk.2) (.slice A164_0 ((rd_T56 l0 x14_1).f0).length c164_0)) (fun _ hk => hk.2) (.int .i64 ((rd_T56 l0 x14_1).f1))) (fun _ hk => hk.1.1)⟩, ⟨by repeat (with_reducible first | exact HB.out | apply pw_below_drewN | refine below_set ?_ GE165.out)⟩⟩
         ·
          replace c11 := Bool.eq_false_iff.mpr c11
          subst c11
          rw [if_neg (show ¬ (false = true) by decide)] at H
          have H' := Aside0.mk H
          clear H
          have p164 : 0 ≤ (x14_1 : Int) := of_decide_eq_true (by (with_reducible assumption))
          have q164 : x14_1 < (l0.length : Int) := of_decide_eq_true (by (with_reducible assumption))
          obtain ⟨ad164, A164_0, c164_0, e164, hx164_0, hx164_1, hl164_0, hi164_0⟩ := at_T56 (Kd.V_reads' HO_12.out).2.2 x14_1 p164 q164
          cases e164
          obtain ⟨ce164, hce164, hMe164, hcc164⟩ := Kd.V_get HO_12.out z56 x14_1 p164 (by exact q164)
          obtain ⟨ua164_0, uc164_0, rfl, ul164_0, ge164_0⟩ := k56_openF hMe164
          have hv164_0 := hcc164 0 _ rfl
          rw [Nat.add_zero] at hv164_0
          replace hv164_0 := Option.some.inj (hv164_0.symm.trans hx164_0)
          injection hv164_0 with hva_ hvn_ hvc_
          rw [hva_] at ge164_0
          rw [hvc_] at ul164_0
          have HL164_0 := Aside0.mk (show Kd.V (Kd.int .i64) 3 _ w.heap.size _ _ ((rd_T56 l0 x14_1).f0) from Kd.V_mk ul164_0 ge164_0)
          clear hva_ hvn_ hvc_ ge164_0 ul164_0
          clear hcc164 hce164
          have HR164_0 := Aside0.mk hi164_0
          have HC164_0 := Aside0.mk hl164_0
          clear hi164_0 hl164_0
          replace p164 := eq_true p164
          replace q164 := eq_true q164
          go_wp2_with (first | ((with_reducible refine gate_dst (N := 11) rfl ?_); refine box_event ?hg (N := 11) ?hd (cs := #[.slice none 0 0, .int .i64 0]) (t := 56) ?hr ?_; (case hd | hg => rfl); (case hr => go_simp; done); intro gb165 hg w20 hbox hb; replace HO_8 := Aside0.mk (Kd.V_below (Kd.V_elderB (by (with_reducible repeat (first | apply Kd.V_alloc | apply Kd.V_drewN | apply Kd.V_drew)); exact HO_8.out) gb165 (Nat.le_of_eq hg.symm)) hb); replace HO_12 := Aside0.mk (Kd.V_below (Kd.V_elderB (by (with_reducible repeat (first | apply Kd.V_alloc | apply Kd.V_drewN | apply Kd.V_drew)); exact HO_12.out) gb165 (Nat.le_of_eq hg.symm)) hb); replace HL164_0 := Aside0.mk (Kd.V_below (Kd.V_elderB (by (with_reducible repeat (first | apply Kd.V_alloc | apply Kd.V_drewN | apply Kd.V_drew)); exact HL164_0.out) gb165 (Nat.le_of_eq hg.symm)) hb); replace HR164_0 := Aside0.mk (Kd.C_below HR164_0.out hb); have BK165 := Aside0.mk (hbox); have GW165 := gw_ HB.out hg; have GE165 := gw_ HB.out hg; replace HB := Aside0.mk (below_step HB.out hb); clear hb hbox hg; have hcz21_0 := cz0_ BK165; have hcz21_1 := cz1_ BK165; have hfz21_0 := blk_frozen BK165.out 0; have hfz21_1 := blk_frozen BK165.out 1) | (go_at_call 23; (with_reducible refine (hushref2_Compare.calls k1 _ _ ((rd_T56 l0 x14_1).f0) _ _ l1 t166 _ ?side1 ?side2 ?side3 ?side4 A9.out).mono ?_); (case side1 => repeat ((exact ((Kd.V_reads' (by (with_reducible repeat (first | apply Kd.V_alloc | apply Kd.V_drewN | apply Kd.V_drew)); exact (Kd.V_mono (Kd.V_far (p := ⟨gb165, 1, none⟩) (Kd.V_far (p := ⟨gb165, 0, none⟩) (Kd.V_mono HL164_0.out (fun k_ hk => (⟨hk, hk.2⟩ : _ ∧ k_ ≠ gb165))) (fun _ hk => hk.2) (.slice A164_0 ((rd_T56 l0 x14_1).f0).length c164_0)) (fun _ hk => hk.2) (.int .i64 ((rd_T56 l0 x14_1).f1))) (fun _ h_ => h_.1)))).2.2)))); (case side2 => exact HC164_0.out); (case side3 => exact Kd.C_below HR1.out (by repeat (with_reducible first | exact HB.out | refine below_set ?_ GE165.out))); (case side4 => exact HC1.out); rintro e w' ⟨rfl, ⟨nd, rfl⟩⟩))
          go_roundg k1
          case measure => have := HK1.out; omega
          case rel => exact ⟨((rd_T56 l0 x14_1).f0), (true), (wrap64 (x14_1 + 1)), rfl, rfl, H', ⟨by have := HK1.out; omega⟩, ⟨by (with_reducible repeat (apply Kd.V_drewN)); exact Kd.V_mono (Kd.V_far (p := ⟨gb165, 1, none⟩) (Kd.V_far (p := ⟨gb165, 0, none⟩) (Kd.V_mono HL164_0.out (fun k_ hk => (⟨hk, hk.2⟩ : _ ∧ k_ ≠ gb165))) (fun _ hk => hk.2) (.slice A164_0 ((rd_T56 l0 x14_1).f0).length c164_0)) (fun _ hk => hk.2) (.int .i64 ((rd_T56 l0 x14_1).f1))) (fun _ hk => hk.1.1)⟩, ⟨by (with_reducible repeat (apply Kd.V_drewN)); exact Kd.V_mono (Kd.V_far (p := ⟨gb165, 1, none⟩) (Kd.V_far (p := ⟨gb165, 0, none⟩) (Kd.V_mono HO_12.out (fun k_ hk => (⟨hk, hk.2⟩ : _ ∧ k_ ≠ gb165))) (fun _ hk => hk.2) (.slice A164_0 ((rd_T56 l0 x14_1).f0).length c164_0)) (fun _ hk => hk.2) (.int .i64 ((rd_T56 l0 x14_1).f1))) (fun _ hk => hk.1.1)⟩, ⟨by repeat (with_reducible first | exact HB.out | apply pw_below_drewN | refine below_set ?_ GE165.out)⟩⟩
        ·
         rw [if_neg c10] at H
         have c10b0 : decide (0 < t166) = false := decide_eq_false c10
         clear c10
         have H' := Aside0.mk H
         clear H
         have p164 : 0 ≤ (x14_1 : Int) := of_decide_eq_true (by (with_reducible assumption))
         have q164 : x14_1 < (l0.length : Int) := of_decide_eq_true (by (with_reducible assumption))
         obtain ⟨ad164, A164_0, c164_0, e164, hx164_0, hx164_1, hl164_0, hi164_0⟩ := at_T56 (Kd.V_reads' HO_12.out).2.2 x14_1 p164 q164
         cases e164
         obtain ⟨ce164, hce164, hMe164, hcc164⟩ := Kd.V_get HO_12.out z56 x14_1 p164 (by exact q164)
         obtain ⟨ua164_0, uc164_0, rfl, ul164_0, ge164_0⟩ := k56_openF hMe164
         have hv164_0 := hcc164 0 _ rfl
         rw [Nat.add_zero] at hv164_0
         replace hv164_0 := Option.some.inj (hv164_0.symm.trans hx164_0)
         injection hv164_0 with hva_ hvn_ hvc_
         rw [hva_] at ge164_0
         rw [hvc_] at ul164_0
         have HL164_0 := Aside0.mk (show Kd.V (Kd.int .i64) 3 _ w.heap.size _ _ ((rd_T56 l0 x14_1).f0) from Kd.V_mk ul164_0 ge164_0)
         clear hva_ hvn_ hvc_ ge164_0 ul164_0
         clear hcc164 hce164
         have HR164_0 := Aside0.mk hi164_0
         have HC164_0 := Aside0.mk hl164_0
         clear hi164_0 hl164_0
         replace p164 := eq_true p164
         replace q164 := eq_true q164
         go_wp2_with (first | ((with_reducible refine gate_dst (N := 11) rfl ?_); refine box_event ?hg (N := 11) ?hd (cs := #[.slice none 0 0, .int .i64 0]) (t := 56) ?hr ?_; (case hd | hg => rfl); (case hr => go_simp; done); intro gb165 hg w22 hbox hb; replace HO_8 := Aside0.mk (Kd.V_below (Kd.V_elderB (by (with_reducible repeat (first | apply Kd.V_alloc | apply Kd.V_drewN | apply Kd.V_drew)); exact HO_8.out) gb165 (Nat.le_of_eq hg.symm)) hb); replace HO_12 := Aside0.mk (Kd.V_below (Kd.V_elderB (by (with_reducible repeat (first | apply Kd.V_alloc | apply Kd.V_drewN | apply Kd.V_drew)); exact HO_12.out) gb165 (Nat.le_of_eq hg.symm)) hb); replace HL164_0 := Aside0.mk (Kd.V_below (Kd.V_elderB (by (with_reducible repeat (first | apply Kd.V_alloc | apply Kd.V_drewN | apply Kd.V_drew)); exact HL164_0.out) gb165 (Nat.le_of_eq hg.symm)) hb); replace HR164_0 := Aside0.mk (Kd.C_below HR164_0.out hb); have BK165 := Aside0.mk (hbox); have GW165 := gw_ HB.out hg; have GE165 := gw_ HB.out hg; replace HB := Aside0.mk (below_step HB.out hb); clear hb hbox hg; have hcz23_0 := cz0_ BK165; have hcz23_1 := cz1_ BK165; have hfz23_0 := blk_frozen BK165.out 0; have hfz23_1 := blk_frozen BK165.out 1) | (go_at_call 23; (with_reducible refine (hushref2_Compare.calls k1 _ _ ((rd_T56 l0 x14_1).f0) _ _ l1 t166 _ ?side1 ?side2 ?side3 ?side4 A9.out).mono ?_); (case side1 => repeat ((exact ((Kd.V_reads' (by (with_reducible repeat (first | apply Kd.V_alloc | apply Kd.V_drewN | apply Kd.V_drew)); exact (Kd.V_mono (Kd.V_far (p := ⟨gb165, 1, none⟩) (Kd.V_far (p := ⟨gb165, 0, none⟩) (Kd.V_mono HL164_0.out (fun k_ hk => (⟨hk, hk.2⟩ : _ ∧ k_ ≠ gb165))) (fun _ hk => hk.2) (.slice A164_0 ((rd_T56 l0 x14_1).f0).length c164_0)) (fun _ hk => hk.2) (.int .i64 ((rd_T56 l0 x14_1).f1))) (fun _ h_ => h_.1)))).2.2)))); (case side2 => exact HC164_0.out); (case side3 => exact Kd.C_below HR1.out (by repeat (with_reducible first | exact HB.out | refine below_set ?_ GE165.out))); (case side4 => exact HC1.out); rintro e w' ⟨rfl, ⟨nd, rfl⟩⟩))
         go_roundg k1
         case measure => have := HK1.out; omega
         case rel => exact ⟨(x8_1), (x9_1), (wrap64 (x14_1 + 1)), rfl, rfl, H', ⟨by have := HK1.out; omega⟩, ⟨by (with_reducible repeat (apply Kd.V_drewN)); exact Kd.V_mono (Kd.V_far (p := ⟨gb165, 1, none⟩) (Kd.V_far (p := ⟨gb165, 0, none⟩) (Kd.V_mono HO_8.out (fun k_ hk => (⟨hk, hk.2⟩ : _ ∧ k_ ≠ gb165))) (fun _ hk => hk.2) (.slice A164_0 ((rd_T56 l0 x14_1).f0).length c164_0)) (fun _ hk => hk.2) (.int .i64 ((rd_T56 l0 x14_1).f1))) (fun _ hk => hk.1.1)⟩, ⟨by (with_reducible repeat (apply Kd.V_drewN)); exact Kd.V_mono (Kd.V_far (p := ⟨gb165, 1, none⟩) (Kd.V_far (p := ⟨gb165, 0, none⟩) (Kd.V_mono HO_12.out (fun k_ hk => (⟨hk, hk.2⟩ : _ ∧ k_ ≠ gb165))) (fun _ hk => hk.2) (.slice A164_0 ((rd_T56 l0 x14_1).f0).length c164_0)) (fun _ hk => hk.2) (.int .i64 ((rd_T56 l0 x14_1).f1))) (fun _ hk => hk.1.1)⟩, ⟨by repeat (with_reducible first | exact HB.out | apply pw_below_drewN | refine below_set ?_ GE165.out)⟩⟩
       ·
        replace c8 := Bool.eq_false_iff.mpr c8
        subst c8
        rw [if_neg (show ¬ (false = true) by decide)] at H
        by_cases c24 : x9_1 = true
        ·
         subst c24
         rw [if_pos rfl] at H
         obtain ⟨t168, A25, H⟩ := bnd_ H
         by_cases c26 : t168 < 0
         ·
          rw [if_pos c26] at H
          have c26b0 : decide (t168 < 0) = true := decide_eq_true c26
          clear c26
          have H' := Aside0.mk H
          clear H
          have p164 : 0 ≤ (x14_1 : Int) := of_decide_eq_true (by (with_reducible assumption))
          have q164 : x14_1 < (l0.length : Int) := of_decide_eq_true (by (with_reducible assumption))
          obtain ⟨ad164, A164_0, c164_0, e164, hx164_0, hx164_1, hl164_0, hi164_0⟩ := at_T56 (Kd.V_reads' HO_12.out).2.2 x14_1 p164 q164
          cases e164
          obtain ⟨ce164, hce164, hMe164, hcc164⟩ := Kd.V_get HO_12.out z56 x14_1 p164 (by exact q164)
          obtain ⟨ua164_0, uc164_0, rfl, ul164_0, ge164_0⟩ := k56_openF hMe164
          have hv164_0 := hcc164 0 _ rfl
          rw [Nat.add_zero] at hv164_0
          replace hv164_0 := Option.some.inj (hv164_0.symm.trans hx164_0)
          injection hv164_0 with hva_ hvn_ hvc_
          rw [hva_] at ge164_0
          rw [hvc_] at ul164_0
          have HL164_0 := Aside0.mk (show Kd.V (Kd.int .i64) 3 _ w.heap.size _ _ ((rd_T56 l0 x14_1).f0) from Kd.V_mk ul164_0 ge164_0)
          clear hva_ hvn_ hvc_ ge164_0 ul164_0
          clear hcc164 hce164
          have HR164_0 := Aside0.mk hi164_0
          have HC164_0 := Aside0.mk hl164_0
          clear hi164_0 hl164_0
          replace p164 := eq_true p164
          replace q164 := eq_true q164
          go_wp2_with (first | ((with_reducible refine gate_dst (N := 11) rfl ?_); refine box_event ?hg (N := 11) ?hd (cs := #[.slice none 0 0, .int .i64 0]) (t := 56) ?hr ?_; (case hd | hg => rfl); (case hr => go_simp; done); intro gb165 hg w27 hbox hb; replace HO_8 := Aside0.mk (Kd.V_below (Kd.V_elderB (by (with_reducible repeat (first | apply Kd.V_alloc | apply Kd.V_drewN | apply Kd.V_drew)); exact HO_8.out) gb165 (Nat.le_of_eq hg.symm)) hb); replace HO_12 := Aside0.mk (Kd.V_below (Kd.V_elderB (by (with_reducible repeat (first | apply Kd.V_alloc | apply Kd.V_drewN | apply Kd.V_drew)); exact HO_12.out) gb165 (Nat.le_of_eq hg.symm)) hb); replace HL164_0 := Aside0.mk (Kd.V_below (Kd.V_elderB (by (with_reducible repeat (first | apply Kd.V_alloc | apply Kd.V_drewN | apply Kd.V_drew)); exact HL164_0.out) gb165 (Nat.le_of_eq hg.symm)) hb); replace HR164_0 := Aside0.mk (Kd.C_below HR164_0.out hb); have BK165 := Aside0.mk (hbox); have GW165 := gw_ HB.out hg; have GE165 := gw_ HB.out hg; replace HB := Aside0.mk (below_step HB.out hb); clear hb hbox hg; have hcz28_0 := cz0_ BK165; have hcz28_1 := cz1_ BK165; have hfz28_0 := blk_frozen BK165.out 0; have hfz28_1 := blk_frozen BK165.out 1; obtain ⟨Ao29, co29, eo29⟩ := Kd.V_slice HO_8.out; subst eo29) | (go_at_call 23; (with_reducible refine (hushref2_Compare.calls k1 _ _ ((rd_T56 l0 x14_1).f0) _ _ x8_1 t168 _ ?side1 ?side2 ?side3 ?side4 A25.out).mono ?_); (case side1 => repeat ((exact ((Kd.V_reads' (by (with_reducible repeat (first | apply Kd.V_alloc | apply Kd.V_drewN | apply Kd.V_drew)); exact (Kd.V_mono (Kd.V_far (p := ⟨gb165, 1, none⟩) (Kd.V_far (p := ⟨gb165, 0, none⟩) (Kd.V_mono HL164_0.out (fun k_ hk => (⟨hk, hk.2⟩ : _ ∧ k_ ≠ gb165))) (fun _ hk => hk.2) (.slice A164_0 ((rd_T56 l0 x14_1).f0).length c164_0)) (fun _ hk => hk.2) (.int .i64 ((rd_T56 l0 x14_1).f1))) (fun _ h_ => h_.1)))).2.2)))); (case side2 => exact HC164_0.out); (case side3 => refine (Kd.V_reads' (e := 3) (base := w.heap.size) (ok := fun k_ => ((P0_ k_ ∨ w.heap.size ≤ k_) ∧ k_ ≠ gb165)) (n := x8_1.length) (c := co29) ?_).2.2; exact (by (with_reducible repeat (first | apply Kd.V_alloc | apply Kd.V_drewN | apply Kd.V_drew)); exact (Kd.V_mono (Kd.V_far (p := ⟨gb165, 1, none⟩) (Kd.V_far (p := ⟨gb165, 0, none⟩) (Kd.V_mono HO_8.out (fun k_ hk => (⟨hk, hk.2⟩ : _ ∧ k_ ≠ gb165))) (fun _ hk => hk.2) (.slice A164_0 ((rd_T56 l0 x14_1).f0).length c164_0)) (fun _ hk => hk.2) (.int .i64 ((rd_T56 l0 x14_1).f1))) (fun _ h_ => h_.1)))); (case side4 => exact (Kd.V_reads' HO_8.out).2.1); rintro e w' ⟨rfl, ⟨nd, rfl⟩⟩))
          go_roundg k1
          case measure => have := HK1.out; omega
          case rel => exact ⟨((rd_T56 l0 x14_1).f0), (true), (wrap64 (x14_1 + 1)), rfl, rfl, H', ⟨by have := HK1.out; omega⟩, ⟨by (with_reducible repeat (apply Kd.V_drewN)); exact Kd.V_mono (Kd.V_far (p := ⟨gb165, 1, none⟩) (Kd.V_far (p := ⟨gb165, 0, none⟩) (Kd.V_mono HL164_0.out (fun k_ hk => (⟨hk, hk.2⟩ : _ ∧ k_ ≠ gb165))) (fun _ hk => hk.2) (.slice A164_0 ((rd_T56 l0 x14_1).f0).length c164_0)) (fun _ hk => hk.2) (.int .i64 ((rd_T56 l0 x14_1).f1))) (fun _ hk => hk.1.1)⟩, ⟨by (with_reducible repeat (apply Kd.V_drewN)); exact Kd.V_mono (Kd.V_far (p := ⟨gb165, 1, none⟩) (Kd.V_far (p := ⟨gb165, 0, none⟩) (Kd.V_mono HO_12.out (fun k_ hk => (⟨hk, hk.2⟩ : _ ∧ k_ ≠ gb165))) (fun _ hk => hk.2) (.slice A164_0 ((rd_T56 l0 x14_1).f0).length c164_0)) (fun _ hk => hk.2) (.int .i64 ((rd_T56 l0 x14_1).f1))) (fun _ hk => hk.1.1)⟩, ⟨by repeat (with_reducible first | exact HB.out | apply pw_below_drewN | refine below_set ?_ GE165.out)⟩⟩
         ·
          rw [if_neg c26] at H
          have c26b0 : decide (t168 < 0) = false := decide_eq_false c26
          clear c26
          have H' := Aside0.mk H
          clear H
          have p164 : 0 ≤ (x14_1 : Int) := of_decide_eq_true (by (with_reducible assumption))
          have q164 : x14_1 < (l0.length : Int) := of_decide_eq_true (by (with_reducible assumption))
          obtain ⟨ad164, A164_0, c164_0, e164, hx164_0, hx164_1, hl164_0, hi164_0⟩ := at_T56 (Kd.V_reads' HO_12.out).2.2 x14_1 p164 q164
          cases e164
          obtain ⟨ce164, hce164, hMe164, hcc164⟩ := Kd.V_get HO_12.out z56 x14_1 p164 (by exact q164)
          obtain ⟨ua164_0, uc164_0, rfl, ul164_0, ge164_0⟩ := k56_openF hMe164
          have hv164_0 := hcc164 0 _ rfl
          rw [Nat.add_zero] at hv164_0
          replace hv164_0 := Option.some.inj (hv164_0.symm.trans hx164_0)
          injection hv164_0 with hva_ hvn_ hvc_
          rw [hva_] at ge164_0
          rw [hvc_] at ul164_0
          have HL164_0 := Aside0.mk (show Kd.V (Kd.int .i64) 3 _ w.heap.size _ _ ((rd_T56 l0 x14_1).f0) from Kd.V_mk ul164_0 ge164_0)
          clear hva_ hvn_ hvc_ ge164_0 ul164_0
          clear hcc164 hce164
          have HR164_0 := Aside0.mk hi164_0
          have HC164_0 := Aside0.mk hl164_0
          clear hi164_0 hl164_0
          replace p164 := eq_true p164
          replace q164 := eq_true q164
          go_wp2_with (first | ((with_reducible refine gate_dst (N := 11) rfl ?_); refine box_event ?hg (N := 11) ?hd (cs := #[.slice none 0 0, .int .i64 0]) (t := 56) ?hr ?_; (case hd | hg => rfl); (case hr => go_simp; done); intro gb165 hg w30 hbox hb; replace HO_8 := Aside0.mk (Kd.V_below (Kd.V_elderB (by (with_reducible repeat (first | apply Kd.V_alloc | apply Kd.V_drewN | apply Kd.V_drew)); exact HO_8.out) gb165 (Nat.le_of_eq hg.symm)) hb); replace HO_12 := Aside0.mk (Kd.V_below (Kd.V_elderB (by (with_reducible repeat (first | apply Kd.V_alloc | apply Kd.V_drewN | apply Kd.V_drew)); exact HO_12.out) gb165 (Nat.le_of_eq hg.symm)) hb); replace HL164_0 := Aside0.mk (Kd.V_below (Kd.V_elderB (by (with_reducible repeat (first | apply Kd.V_alloc | apply Kd.V_drewN | apply Kd.V_drew)); exact HL164_0.out) gb165 (Nat.le_of_eq hg.symm)) hb); replace HR164_0 := Aside0.mk (Kd.C_below HR164_0.out hb); have BK165 := Aside0.mk (hbox); have GW165 := gw_ HB.out hg; have GE165 := gw_ HB.out hg; replace HB := Aside0.mk (below_step HB.out hb); clear hb hbox hg; have hcz31_0 := cz0_ BK165; have hcz31_1 := cz1_ BK165; have hfz31_0 := blk_frozen BK165.out 0; have hfz31_1 := blk_frozen BK165.out 1; obtain ⟨Ao32, co32, eo32⟩ := Kd.V_slice HO_8.out; subst eo32) | (go_at_call 23; (with_reducible refine (hushref2_Compare.calls k1 _ _ ((rd_T56 l0 x14_1).f0) _ _ x8_1 t168 _ ?side1 ?side2 ?side3 ?side4 A25.out).mono ?_); (case side1 => repeat ((exact ((Kd.V_reads' (by (with_reducible repeat (first | apply Kd.V_alloc | apply Kd.V_drewN | apply Kd.V_drew)); exact (Kd.V_mono (Kd.V_far (p := ⟨gb165, 1, none⟩) (Kd.V_far (p := ⟨gb165, 0, none⟩) (Kd.V_mono HL164_0.out (fun k_ hk => (⟨hk, hk.2⟩ : _ ∧ k_ ≠ gb165))) (fun _ hk => hk.2) (.slice A164_0 ((rd_T56 l0 x14_1).f0).length c164_0)) (fun _ hk => hk.2) (.int .i64 ((rd_T56 l0 x14_1).f1))) (fun _ h_ => h_.1)))).2.2)))); (case side2 => exact HC164_0.out); (case side3 => refine (Kd.V_reads' (e := 3) (base := w.heap.size) (ok := fun k_ => ((P0_ k_ ∨ w.heap.size ≤ k_) ∧ k_ ≠ gb165)) (n := x8_1.length) (c := co32) ?_).2.2; exact (by (with_reducible repeat (first | apply Kd.V_alloc | apply Kd.V_drewN | apply Kd.V_drew)); exact (Kd.V_mono (Kd.V_far (p := ⟨gb165, 1, none⟩) (Kd.V_far (p := ⟨gb165, 0, none⟩) (Kd.V_mono HO_8.out (fun k_ hk => (⟨hk, hk.2⟩ : _ ∧ k_ ≠ gb165))) (fun _ hk => hk.2) (.slice A164_0 ((rd_T56 l0 x14_1).f0).length c164_0)) (fun _ hk => hk.2) (.int .i64 ((rd_T56 l0 x14_1).f1))) (fun _ h_ => h_.1)))); (case side4 => exact (Kd.V_reads' HO_8.out).2.1); rintro e w' ⟨rfl, ⟨nd, rfl⟩⟩))
          go_roundg k1
          case measure => have := HK1.out; omega
          case rel => exact ⟨(x8_1), (true), (wrap64 (x14_1 + 1)), rfl, rfl, H', ⟨by have := HK1.out; omega⟩, ⟨by (with_reducible repeat (apply Kd.V_drewN)); exact Kd.V_mono (Kd.V_far (p := ⟨gb165, 1, none⟩) (Kd.V_far (p := ⟨gb165, 0, none⟩) (Kd.V_mono HO_8.out (fun k_ hk => (⟨hk, hk.2⟩ : _ ∧ k_ ≠ gb165))) (fun _ hk => hk.2) (.slice A164_0 ((rd_T56 l0 x14_1).f0).length c164_0)) (fun _ hk => hk.2) (.int .i64 ((rd_T56 l0 x14_1).f1))) (fun _ hk => hk.1.1)⟩, ⟨by (with_reducible repeat (apply Kd.V_drewN)); exact Kd.V_mono (Kd.V_far (p := ⟨gb165, 1, none⟩) (Kd.V_far (p := ⟨gb165, 0, none⟩) (Kd.V_mono HO_12.out (fun k_ hk => (⟨hk, hk.2⟩ : _ ∧ k_ ≠ gb165))) (fun _ hk => hk.2) (.slice A164_0 ((rd_T56 l0 x14_1).f0).length c164_0)) (fun _ hk => hk.2) (.int .i64 ((rd_T56 l0 x14_1).f1))) (fun _ hk => hk.1.1)⟩, ⟨by repeat (with_reducible first | exact HB.out | apply pw_below_drewN | refine below_set ?_ GE165.out)⟩⟩
        ·
         replace c24 := Bool.eq_false_iff.mpr c24
         subst c24
         rw [if_neg (show ¬ (false = true) by decide)] at H
         have H' := Aside0.mk H
         clear H
         have p164 : 0 ≤ (x14_1 : Int) := of_decide_eq_true (by (with_reducible assumption))
         have q164 : x14_1 < (l0.length : Int) := of_decide_eq_true (by (with_reducible assumption))
         obtain ⟨ad164, A164_0, c164_0, e164, hx164_0, hx164_1, hl164_0, hi164_0⟩ := at_T56 (Kd.V_reads' HO_12.out).2.2 x14_1 p164 q164
         cases e164
         obtain ⟨ce164, hce164, hMe164, hcc164⟩ := Kd.V_get HO_12.out z56 x14_1 p164 (by exact q164)
         obtain ⟨ua164_0, uc164_0, rfl, ul164_0, ge164_0⟩ := k56_openF hMe164
         have hv164_0 := hcc164 0 _ rfl
         rw [Nat.add_zero] at hv164_0
         replace hv164_0 := Option.some.inj (hv164_0.symm.trans hx164_0)
         injection hv164_0 with hva_ hvn_ hvc_
         rw [hva_] at ge164_0
         rw [hvc_] at ul164_0
         have HL164_0 := Aside0.mk (show Kd.V (Kd.int .i64) 3 _ w.heap.size _ _ ((rd_T56 l0 x14_1).f0) from Kd.V_mk ul164_0 ge164_0)
         clear hva_ hvn_ hvc_ ge164_0 ul164_0
         clear hcc164 hce164
         have HR164_0 := Aside0.mk hi164_0
         have HC164_0 := Aside0.mk hl164_0
         clear hi164_0 hl164_0
         replace p164 := eq_true p164
         replace q164 := eq_true q164
         go_wp2_with (((with_reducible refine gate_dst (N := 11) rfl ?_); refine box_event ?hg (N := 11) ?hd (cs := #[.slice none 0 0, .int .i64 0]) (t := 56) ?hr ?_; (case hd | hg => rfl); (case hr => go_simp; done); intro gb165 hg w33 hbox hb; replace HO_8 := Aside0.mk (Kd.V_below (Kd.V_elderB (by (with_reducible repeat (first | apply Kd.V_alloc | apply Kd.V_drewN | apply Kd.V_drew)); exact HO_8.out) gb165 (Nat.le_of_eq hg.symm)) hb); replace HO_12 := Aside0.mk (Kd.V_below (Kd.V_elderB (by (with_reducible repeat (first | apply Kd.V_alloc | apply Kd.V_drewN | apply Kd.V_drew)); exact HO_12.out) gb165 (Nat.le_of_eq hg.symm)) hb); replace HL164_0 := Aside0.mk (Kd.V_below (Kd.V_elderB (by (with_reducible repeat (first | apply Kd.V_alloc | apply Kd.V_drewN | apply Kd.V_drew)); exact HL164_0.out) gb165 (Nat.le_of_eq hg.symm)) hb); replace HR164_0 := Aside0.mk (Kd.C_below HR164_0.out hb); have BK165 := Aside0.mk (hbox); have GW165 := gw_ HB.out hg; have GE165 := gw_ HB.out hg; replace HB := Aside0.mk (below_step HB.out hb); clear hb hbox hg; have hcz34_0 := cz0_ BK165; have hcz34_1 := cz1_ BK165; have hfz34_0 := blk_frozen BK165.out 0; have hfz34_1 := blk_frozen BK165.out 1))
         go_roundg k1
         case measure => have := HK1.out; omega
         case rel => exact ⟨((rd_T56 l0 x14_1).f0), (true), (wrap64 (x14_1 + 1)), rfl, rfl, H', ⟨by have := HK1.out; omega⟩, ⟨by (with_reducible repeat (first | apply Kd.V_alloc | apply Kd.V_drewN | apply Kd.V_drew)); exact Kd.V_mono (Kd.V_far (p := ⟨gb165, 1, none⟩) (Kd.V_far (p := ⟨gb165, 0, none⟩) (Kd.V_mono HL164_0.out (fun k_ hk => (⟨hk, hk.2⟩ : _ ∧ k_ ≠ gb165))) (fun _ hk => hk.2) (.slice A164_0 ((rd_T56 l0 x14_1).f0).length c164_0)) (fun _ hk => hk.2) (.int .i64 ((rd_T56 l0 x14_1).f1))) (fun _ hk => hk.1.1)⟩, ⟨by (with_reducible repeat (first | apply Kd.V_alloc | apply Kd.V_drewN | apply Kd.V_drew)); exact Kd.V_mono (Kd.V_far (p := ⟨gb165, 1, none⟩) (Kd.V_far (p := ⟨gb165, 0, none⟩) (Kd.V_mono HO_12.out (fun k_ hk => (⟨hk, hk.2⟩ : _ ∧ k_ ≠ gb165))) (fun _ hk => hk.2) (.slice A164_0 ((rd_T56 l0 x14_1).f0).length c164_0)) (fun _ hk => hk.2) (.int .i64 ((rd_T56 l0 x14_1).f1))) (fun _ hk => hk.1.1)⟩, ⟨by repeat (with_reducible first | exact HB.out | refine below_set ?_ GE165.out)⟩⟩
      ·
       rw [if_neg c7] at H
       have c7b0 : decide (0 < ((rd_T56 l0 x14_1).f1)) = false := decide_eq_false c7
       clear c7
       have H' := Aside0.mk H
       clear H
       have p164 : 0 ≤ (x14_1 : Int) := of_decide_eq_true (by (with_reducible assumption))
       have q164 : x14_1 < (l0.length : Int) := of_decide_eq_true (by (with_reducible assumption))
       obtain ⟨ad164, A164_0, c164_0, e164, hx164_0, hx164_1, hl164_0, hi164_0⟩ := at_T56 (Kd.V_reads' HO_12.out).2.2 x14_1 p164 q164
       cases e164
       obtain ⟨ce164, hce164, hMe164, hcc164⟩ := Kd.V_get HO_12.out z56 x14_1 p164 (by exact q164)
       obtain ⟨ua164_0, uc164_0, rfl, ul164_0, ge164_0⟩ := k56_openF hMe164
       have hv164_0 := hcc164 0 _ rfl
       rw [Nat.add_zero] at hv164_0
       replace hv164_0 := Option.some.inj (hv164_0.symm.trans hx164_0)
       injection hv164_0 with hva_ hvn_ hvc_
       rw [hva_] at ge164_0
       rw [hvc_] at ul164_0
       have HL164_0 := Aside0.mk (show Kd.V (Kd.int .i64) 3 _ w.heap.size _ _ ((rd_T56 l0 x14_1).f0) from Kd.V_mk ul164_0 ge164_0)
       clear hva_ hvn_ hvc_ ge164_0 ul164_0
       clear hcc164 hce164
       have HR164_0 := Aside0.mk hi164_0
       have HC164_0 := Aside0.mk hl164_0
       clear hi164_0 hl164_0
       replace p164 := eq_true p164
       replace q164 := eq_true q164
       go_wp2_with (((with_reducible refine gate_dst (N := 11) rfl ?_); refine box_event ?hg (N := 11) ?hd (cs := #[.slice none 0 0, .int .i64 0]) (t := 56) ?hr ?_; (case hd | hg => rfl); (case hr => go_simp; done); intro gb165 hg w35 hbox hb; replace HO_8 := Aside0.mk (Kd.V_below (Kd.V_elderB (by (with_reducible repeat (first | apply Kd.V_alloc | apply Kd.V_drewN | apply Kd.V_drew)); exact HO_8.out) gb165 (Nat.le_of_eq hg.symm)) hb); replace HO_12 := Aside0.mk (Kd.V_below (Kd.V_elderB (by (with_reducible repeat (first | apply Kd.V_alloc | apply Kd.V_drewN | apply Kd.V_drew)); exact HO_12.out) gb165 (Nat.le_of_eq hg.symm)) hb); replace HL164_0 := Aside0.mk (Kd.V_below (Kd.V_elderB (by (with_reducible repeat (first | apply Kd.V_alloc | apply Kd.V_drewN | apply Kd.V_drew)); exact HL164_0.out) gb165 (Nat.le_of_eq hg.symm)) hb); replace HR164_0 := Aside0.mk (Kd.C_below HR164_0.out hb); have BK165 := Aside0.mk (hbox); have GW165 := gw_ HB.out hg; have GE165 := gw_ HB.out hg; replace HB := Aside0.mk (below_step HB.out hb); clear hb hbox hg; have hcz36_0 := cz0_ BK165; have hcz36_1 := cz1_ BK165; have hfz36_0 := blk_frozen BK165.out 0; have hfz36_1 := blk_frozen BK165.out 1))
       go_roundg k1
       case measure => have := HK1.out; omega
       case rel => exact ⟨(x8_1), (x9_1), (wrap64 (x14_1 + 1)), rfl, rfl, H', ⟨by have := HK1.out; omega⟩, ⟨by (with_reducible repeat (first | apply Kd.V_alloc | apply Kd.V_drewN | apply Kd.V_drew)); exact Kd.V_mono (Kd.V_far (p := ⟨gb165, 1, none⟩) (Kd.V_far (p := ⟨gb165, 0, none⟩) (Kd.V_mono HO_8.out (fun k_ hk => (⟨hk, hk.2⟩ : _ ∧ k_ ≠ gb165))) (fun _ hk => hk.2) (.slice A164_0 ((rd_T56 l0 x14_1).f0).length c164_0)) (fun _ hk => hk.2) (.int .i64 ((rd_T56 l0 x14_1).f1))) (fun _ hk => hk.1.1)⟩, ⟨by (with_reducible repeat (first | apply Kd.V_alloc | apply Kd.V_drewN | apply Kd.V_drew)); exact Kd.V_mono (Kd.V_far (p := ⟨gb165, 1, none⟩) (Kd.V_far (p := ⟨gb165, 0, none⟩) (Kd.V_mono HO_12.out (fun k_ hk => (⟨hk, hk.2⟩ : _ ∧ k_ ≠ gb165))) (fun _ hk => hk.2) (.slice A164_0 ((rd_T56 l0 x14_1).f0).length c164_0)) (fun _ hk => hk.2) (.int .i64 ((rd_T56 l0 x14_1).f1))) (fun _ hk => hk.1.1)⟩, ⟨by repeat (with_reducible first | exact HB.out | refine below_set ?_ GE165.out)⟩⟩
     ·
      rw [if_neg c6] at H
      exact absurd H (by simp)
    ·
     rw [if_neg c5] at H
     exact absurd H (by simp)
   ·
    rw [if_neg c4] at H
    have c4b0 : decide (x14_1 < (l0.length : Int)) = false := decide_eq_false c4
    clear c4
    simp only [Option.some.injEq, Prod.mk.injEq] at H
    obtain ⟨rfl, rfl⟩ := H
    go_wp2
    go_ret2
    exact ⟨_, rfl, by (with_reducible repeat (first | apply Kd.V_alloc | apply Kd.V_drewN | apply Kd.V_drew)); exact HO_8.out, HB.out⟩

end Go.Proofs.Yteajcjalpofalaa.PA


/- Functions of the program in Lean, by wip/xprint.py. Conditions: in each theorem. -/
import Derived.Test.YteajcjalpofalaaPAxs
import Derived.Test.YteajcjalpofalaaPAx0
import Derived.Test.YteajcjalpofalaaPAx9
import Derived.Test.YteajcjalpofalaaPAx13
namespace Go.Proofs.Yteajcjalpofalaa.PA
open Go.RowKit Go.Proofs.YteajcjalpofalaaW.PrintWords Go.Proofs.YteajcjalpofalaaW.PrintLast Go.Proofs.YteajcjalpofalaaW.PrintMore
attribute [local go_sem] max2_int min2_int max_two min_two max_three min_three max_four min_four   -- for this text's walks alone
set_option linter.unusedVariables false
set_option linter.unusedSimpArgs false

/-! ### hushref2_Make: function 22 -/
def hushref2_Make.l0 : Nat → List (S56) → List (S56) → Int → Int → Option ((List (S56)) × Int)
 | 0, _, _, _, _ => none
 | k + 1, x0, x6, x7, x8 => if x8 < x7 then (if 0 ≤ x8 then (if x8 < (x6.length : Int) then ((hushref2_Small.f k ((rd_T56 x6 x8).f0)).bind fun t195 => (if t195 = true then (if ((rd_T56 x6 x8).f1) < 0 then (some (([] : List (S56)), 3)) else (if ((rd_T56 x6 x8).f1) > 1073741824 then (some (([] : List (S56)), 3)) else (hushref2_Make.l0 k x0 x6 x7 (wrap64 (x8 + 1))))) else (some (([] : List (S56)), 3)))) else (none)) else (none)) else ((hushref2_Tidy.f k x0).bind fun bt196 => (some (bt196.1, bt196.2)))
def hushref2_Make.f (k : Nat) (l0 : List (S56)) : Option ((List (S56)) × Int) := hushref2_Make.l0 k l0 l0 (l0.length : Int) 0
theorem hushref2_Make.mono_l : ∀ k, (∀ y0 y1 y2 y3, LeO (hushref2_Make.l0 k y0 y1 y2 y3) (hushref2_Make.l0 (k + 1) y0 y1 y2 y3))
 | 0 => fun _ _ _ _ r h => by simp [hushref2_Make.l0] at h
 | k + 1 => by
  have ih0 := hushref2_Make.mono_l k
  ·
   intro y0 y1 y2 y3
   unfold hushref2_Make.l0
   repeat' first
   | (with_reducible exact ih0 _ _ _ _)
   | (with_reducible exact hushref2_Small.mono _ _)
   | (with_reducible exact hushref2_Tidy.mono _ _)
   | (with_reducible exact LeO.refl _)
   | (with_reducible refine LeO.ite ?_ ?_)
   | (with_reducible refine LeO.bind ?_ (fun _ => ?_))
theorem hushref2_Make.mono : ∀ a0 k, LeO (hushref2_Make.f k a0) (hushref2_Make.f (k + 1) a0) := by
 intro a0 k
 have ih0 := hushref2_Make.mono_l k
 unfold hushref2_Make.f
 repeat' (with_reducible exact ih0 _ _ _ _)
set_option maxHeartbeats 8000000 in
set_option maxRecDepth 100000 in
theorem hushref2_Make.calls (k : Nat) (P0_ : Nat → Prop) (A0 : Option Addr) (c0 : Nat) (l0 : List (S56)) (r1 : List (S56)) (r2 : Int) (w : World) (hs0 : Kd.V k56 56 w w.heap.size (fun k_ => P0_ k_) (.slice A0 l0.length c0) l0) (h : hushref2_Make.f k l0 = some (r1, r2)) :
  Calls Try.prog 22 #[.slice A0 l0.length c0] w fun e w' => ∃ v0_ : Value, e = .returned (.tuple #[v0_, .int .i64 r2]) ∧ Kd.N k56 56 w' w.heap.size (fun k_ => (P0_ k_ ∨ w.heap.size ≤ k_)) v0_ r1 ∧ Below w.heap.size w w' := by
 have hu56 := Try.underlying56
 have HO0 := Aside0.mk (show Kd.V k56 56 w w.heap.size (fun k_ => (P0_ k_ ∨ w.heap.size ≤ k_)) (.slice A0 l0.length c0) l0 from Kd.V_mono hs0 (fun k_ hk => .inl hk))
 have HB := Aside0.mk (Below.refl w.heap.size w)
 have H : (hushref2_Make.l0 k l0 l0 (l0.length : Int) 0) = some (r1, r2) := h
 clear h
 have H' := Aside0.mk H
 clear H
 go_enter Try.func22, Try.ntmps22
 go_wp2
 go_loopg [8] k (fun kq v8 w' => ∃ (x8_1 : Int), v8 = .int .i64 x8_1 ∧ Aside0 (hushref2_Make.l0 kq l0 l0 (l0.length : Int) x8_1 = some (r1, r2)) ∧ Aside0 (kq ≤ k) ∧ Aside0 (Kd.V k56 56 w' w.heap.size (fun k_ => (P0_ k_ ∨ w.heap.size ≤ k_)) (.slice A0 l0.length c0) l0) ∧ Aside0 (Kd.V k56 56 w' w.heap.size (fun k_ => (P0_ k_ ∨ w.heap.size ≤ k_)) (.slice A0 l0.length c0) l0) ∧ Aside0 (Below w.heap.size w w'))
 case atStart => exact ⟨(0), rfl, H', ⟨Nat.le_refl _⟩, ⟨by (with_reducible repeat (first | apply Kd.V_alloc | apply Kd.V_drewN | apply Kd.V_drew)); exact HO0.out⟩, ⟨by (with_reducible repeat (first | apply Kd.V_alloc | apply Kd.V_drewN | apply Kd.V_drew)); exact HO0.out⟩, ⟨HB.out⟩⟩
 case round =>
  clear H'
  obtain ⟨x8_1, rfl, HA, HK1, HO_0, HO_6, HB⟩ := hrel
  cases gk with
  | zero => exact absurd HA.out (by simp [hushref2_Make.l0])
  | succ k1 =>
   have H := HA.out
   clear HA
   simp only [hushref2_Make.l0] at H
   by_cases c2 : x8_1 < (l0.length : Int)
   ·
    rw [if_pos c2] at H
    have c2b0 : decide (x8_1 < (l0.length : Int)) = true := decide_eq_true c2
    clear c2
    by_cases c3 : 0 ≤ x8_1
    ·
     rw [if_pos c3] at H
     have c3b0 : decide (0 ≤ x8_1) = true := decide_eq_true c3
     clear c3
     by_cases c4 : x8_1 < (l0.length : Int)
     ·
      rw [if_pos c4] at H
      have c4b0 : decide (x8_1 < (l0.length : Int)) = true := decide_eq_true c4
      clear c4
      obtain ⟨t195, A5, H⟩ := bnd_ H
      by_cases c6 : t195 = true
      ·
       subst c6
       rw [if_pos rfl] at H
       by_cases c7 : ((rd_T56 l0 x8_1).f1) < 0
       ·
        rw [if_pos c7] at H
        have c7b0 : decide (((rd_T56 l0 x8_1).f1) < 0) = true := decide_eq_true c7
        clear c7
        simp only [Option.some.injEq, Prod.mk.injEq] at H
        obtain ⟨rfl, rfl⟩ := H
        have p193 : 0 ≤ (x8_1 : Int) := of_decide_eq_true (by (with_reducible assumption))
        have q193 : x8_1 < (l0.length : Int) := of_decide_eq_true (by (with_reducible assumption))
        obtain ⟨ad193, A193_0, c193_0, e193, hx193_0, hx193_1, hl193_0, hi193_0⟩ := at_T56 (Kd.V_reads' HO_6.out).2.2 x8_1 p193 q193
        cases e193
        obtain ⟨ce193, hce193, hMe193, hcc193⟩ := Kd.V_get HO_6.out z56 x8_1 p193 (by exact q193)
        obtain ⟨ua193_0, uc193_0, rfl, ul193_0, ge193_0⟩ := k56_openF hMe193
        have hv193_0 := hcc193 0 _ rfl
        rw [Nat.add_zero] at hv193_0
        replace hv193_0 := Option.some.inj (hv193_0.symm.trans hx193_0)
        injection hv193_0 with hva_ hvn_ hvc_
        rw [hva_] at ge193_0
        rw [hvc_] at ul193_0
        have HL193_0 := Aside0.mk (show Kd.V (Kd.int .i64) 3 _ w.heap.size _ _ ((rd_T56 l0 x8_1).f0) from Kd.V_mk ul193_0 ge193_0)
        clear hva_ hvn_ hvc_ ge193_0 ul193_0
        clear hcc193 hce193
        have HR193_0 := Aside0.mk hi193_0
        have HC193_0 := Aside0.mk hl193_0
        clear hi193_0 hl193_0
        replace p193 := eq_true p193
        replace q193 := eq_true q193
        go_wp2_with (first | ((with_reducible refine gate_dst (N := 5) rfl ?_); refine box_event ?hg (N := 5) ?hd (cs := #[.slice none 0 0, .int .i64 0]) (t := 56) ?hr ?_; (case hd | hg => rfl); (case hr => go_simp; done); intro gb194 hg w8 hbox hb; replace HO_0 := Aside0.mk (Kd.V_below (Kd.V_elderB (by (with_reducible repeat (first | apply Kd.V_alloc | apply Kd.V_drewN | apply Kd.V_drew)); exact HO_0.out) gb194 (Nat.le_of_eq hg.symm)) hb); replace HO_6 := Aside0.mk (Kd.V_below (Kd.V_elderB (by (with_reducible repeat (first | apply Kd.V_alloc | apply Kd.V_drewN | apply Kd.V_drew)); exact HO_6.out) gb194 (Nat.le_of_eq hg.symm)) hb); replace HL193_0 := Aside0.mk (Kd.V_below (Kd.V_elderB (by (with_reducible repeat (first | apply Kd.V_alloc | apply Kd.V_drewN | apply Kd.V_drew)); exact HL193_0.out) gb194 (Nat.le_of_eq hg.symm)) hb); replace HR193_0 := Aside0.mk (Kd.C_below HR193_0.out hb); have BK194 := Aside0.mk (hbox); have GW194 := gw_ HB.out hg; have GE194 := gw_ HB.out hg; replace HB := Aside0.mk (below_step HB.out hb); clear hb hbox hg; have hcz9_0 := cz0_ BK194; have hcz9_1 := cz1_ BK194; have hfz9_0 := blk_frozen BK194.out 0; have hfz9_1 := blk_frozen BK194.out 1) | ((with_reducible refine gate_callee (f := 50) rfl ?_); refine goesL_ (some 14) rfl rfl Try.func50 (by kernel_rfl) rfl #[.slice A193_0 ((rd_T56 l0 x8_1).f0).length c193_0] rfl (by (try simp only [List.map_toArray, List.map_cons, List.map_nil]); rfl) ?_; (with_reducible refine (hushref2_Small.calls k1 _ _ ((rd_T56 l0 x8_1).f0) true _ ?side1 ?side2 A5.out).mono ?_); (case side1 => repeat ((exact ((Kd.V_reads' (by (with_reducible repeat (first | apply Kd.V_alloc | apply Kd.V_drewN | apply Kd.V_drew)); exact (Kd.V_mono (Kd.V_far (p := ⟨gb194, 1, none⟩) (Kd.V_far (p := ⟨gb194, 0, none⟩) (Kd.V_mono HL193_0.out (fun k_ hk => (⟨hk, hk.2⟩ : _ ∧ k_ ≠ gb194))) (fun _ hk => hk.2) (.slice A193_0 ((rd_T56 l0 x8_1).f0).length c193_0)) (fun _ hk => hk.2) (.int .i64 ((rd_T56 l0 x8_1).f1))) (fun _ h_ => h_.1)))).2.2)))); (case side2 => exact HC193_0.out); rintro e w' ⟨rfl, ⟨nd, rfl⟩⟩; refine ⟨_, rfl, ?_⟩))
        go_ret2
        exact ⟨_, rfl, by exact Kd.N_nil _ _ _ _ _, by repeat (with_reducible first | exact HB.out | apply pw_below_drewN | refine below_set ?_ GE194.out)⟩
       ·
        rw [if_neg c7] at H
        have c7b0 : decide (((rd_T56 l0 x8_1).f1) < 0) = false := decide_eq_false c7
        clear c7
        by_cases c10 : ((rd_T56 l0 x8_1).f1) > 1073741824
        ·
         rw [if_pos c10] at H
         have c10b0 : decide (1073741824 < ((rd_T56 l0 x8_1).f1)) = true := decide_eq_true c10
         clear c10
         simp only [Option.some.injEq, Prod.mk.injEq] at H
         obtain ⟨rfl, rfl⟩ := H
         have p193 : 0 ≤ (x8_1 : Int) := of_decide_eq_true (by (with_reducible assumption))
         have q193 : x8_1 < (l0.length : Int) := of_decide_eq_true (by (with_reducible assumption))
         obtain ⟨ad193, A193_0, c193_0, e193, hx193_0, hx193_1, hl193_0, hi193_0⟩ := at_T56 (Kd.V_reads' HO_6.out).2.2 x8_1 p193 q193
         cases e193
         obtain ⟨ce193, hce193, hMe193, hcc193⟩ := Kd.V_get HO_6.out z56 x8_1 p193 (by exact q193)
         obtain ⟨ua193_0, uc193_0, rfl, ul193_0, ge193_0⟩ := k56_openF hMe193
         have hv193_0 := hcc193 0 _ rfl
         rw [Nat.add_zero] at hv193_0
         replace hv193_0 := Option.some.inj (hv193_0.symm.trans hx193_0)
         injection hv193_0 with hva_ hvn_ hvc_
         rw [hva_] at ge193_0
         rw [hvc_] at ul193_0
         have HL193_0 := Aside0.mk (show Kd.V (Kd.int .i64) 3 _ w.heap.size _ _ ((rd_T56 l0 x8_1).f0) from Kd.V_mk ul193_0 ge193_0)
         clear hva_ hvn_ hvc_ ge193_0 ul193_0
         clear hcc193 hce193
         have HR193_0 := Aside0.mk hi193_0
         have HC193_0 := Aside0.mk hl193_0
         clear hi193_0 hl193_0
         replace p193 := eq_true p193
         replace q193 := eq_true q193
         go_wp2_with (first | ((with_reducible refine gate_dst (N := 5) rfl ?_); refine box_event ?hg (N := 5) ?hd (cs := #[.slice none 0 0, .int .i64 0]) (t := 56) ?hr ?_; (case hd | hg => rfl); (case hr => go_simp; done); intro gb194 hg w11 hbox hb; replace HO_0 := Aside0.mk (Kd.V_below (Kd.V_elderB (by (with_reducible repeat (first | apply Kd.V_alloc | apply Kd.V_drewN | apply Kd.V_drew)); exact HO_0.out) gb194 (Nat.le_of_eq hg.symm)) hb); replace HO_6 := Aside0.mk (Kd.V_below (Kd.V_elderB (by (with_reducible repeat (first | apply Kd.V_alloc | apply Kd.V_drewN | apply Kd.V_drew)); exact HO_6.out) gb194 (Nat.le_of_eq hg.symm)) hb); replace HL193_0 := Aside0.mk (Kd.V_below (Kd.V_elderB (by (with_reducible repeat (first | apply Kd.V_alloc | apply Kd.V_drewN | apply Kd.V_drew)); exact HL193_0.out) gb194 (Nat.le_of_eq hg.symm)) hb); replace HR193_0 := Aside0.mk (Kd.C_below HR193_0.out hb); have BK194 := Aside0.mk (hbox); have GW194 := gw_ HB.out hg; have GE194 := gw_ HB.out hg; replace HB := Aside0.mk (below_step HB.out hb); clear hb hbox hg; have hcz12_0 := cz0_ BK194; have hcz12_1 := cz1_ BK194; have hfz12_0 := blk_frozen BK194.out 0; have hfz12_1 := blk_frozen BK194.out 1) | ((with_reducible refine gate_callee (f := 50) rfl ?_); refine goesL_ (some 14) rfl rfl Try.func50 (by kernel_rfl) rfl #[.slice A193_0 ((rd_T56 l0 x8_1).f0).length c193_0] rfl (by (try simp only [List.map_toArray, List.map_cons, List.map_nil]); rfl) ?_; (with_reducible refine (hushref2_Small.calls k1 _ _ ((rd_T56 l0 x8_1).f0) true _ ?side1 ?side2 A5.out).mono ?_); (case side1 => repeat ((exact ((Kd.V_reads' (by (with_reducible repeat (first | apply Kd.V_alloc | apply Kd.V_drewN | apply Kd.V_drew)); exact (Kd.V_mono (Kd.V_far (p := ⟨gb194, 1, none⟩) (Kd.V_far (p := ⟨gb194, 0, none⟩) (Kd.V_mono HL193_0.out (fun k_ hk => (⟨hk, hk.2⟩ : _ ∧ k_ ≠ gb194))) (fun _ hk => hk.2) (.slice A193_0 ((rd_T56 l0 x8_1).f0).length c193_0)) (fun _ hk => hk.2) (.int .i64 ((rd_T56 l0 x8_1).f1))) (fun _ h_ => h_.1)))).2.2)))); (case side2 => exact HC193_0.out); rintro e w' ⟨rfl, ⟨nd, rfl⟩⟩; refine ⟨_, rfl, ?_⟩))
         go_ret2
         exact ⟨_, rfl, by exact Kd.N_nil _ _ _ _ _, by repeat (with_reducible first | exact HB.out | apply pw_below_drewN | refine below_set ?_ GE194.out)⟩
        ·
         rw [if_neg c10] at H
         have c10b0 : decide (1073741824 < ((rd_T56 l0 x8_1).f1)) = false := decide_eq_false c10
         clear c10
         have H' := Aside0.mk H
         clear H
         have p193 : 0 ≤ (x8_1 : Int) := of_decide_eq_true (by (with_reducible assumption))
         have q193 : x8_1 < (l0.length : Int) := of_decide_eq_true (by (with_reducible assumption))
         obtain ⟨ad193, A193_0, c193_0, e193, hx193_0, hx193_1, hl193_0, hi193_0⟩ := at_T56 (Kd.V_reads' HO_6.out).2.2 x8_1 p193 q193
         cases e193
         obtain ⟨ce193, hce193, hMe193, hcc193⟩ := Kd.V_get HO_6.out z56 x8_1 p193 (by exact q193)
         obtain ⟨ua193_0, uc193_0, rfl, ul193_0, ge193_0⟩ := k56_openF hMe193
         have hv193_0 := hcc193 0 _ rfl
         rw [Nat.add_zero] at hv193_0
         replace hv193_0 := Option.some.inj (hv193_0.symm.trans hx193_0)
         injection hv193_0 with hva_ hvn_ hvc_
         rw [hva_] at ge193_0
         rw [hvc_] at ul193_0
         have HL193_0 := Aside0.mk (show Kd.V (Kd.int .i64) 3 _ w.heap.size _ _ ((rd_T56 l0 x8_1).f0) from Kd.V_mk ul193_0 ge193_0)
         clear hva_ hvn_ hvc_ ge193_0 ul193_0
         clear hcc193 hce193
         have HR193_0 := Aside0.mk hi193_0
         have HC193_0 := Aside0.mk hl193_0
         clear hi193_0 hl193_0
         replace p193 := eq_true p193
         replace q193 := eq_true q193
         go_wp2_with (first | ((with_reducible refine gate_dst (N := 5) rfl ?_); refine box_event ?hg (N := 5) ?hd (cs := #[.slice none 0 0, .int .i64 0]) (t := 56) ?hr ?_; (case hd | hg => rfl); (case hr => go_simp; done); intro gb194 hg w13 hbox hb; replace HO_0 := Aside0.mk (Kd.V_below (Kd.V_elderB (by (with_reducible repeat (first | apply Kd.V_alloc | apply Kd.V_drewN | apply Kd.V_drew)); exact HO_0.out) gb194 (Nat.le_of_eq hg.symm)) hb); replace HO_6 := Aside0.mk (Kd.V_below (Kd.V_elderB (by (with_reducible repeat (first | apply Kd.V_alloc | apply Kd.V_drewN | apply Kd.V_drew)); exact HO_6.out) gb194 (Nat.le_of_eq hg.symm)) hb); replace HL193_0 := Aside0.mk (Kd.V_below (Kd.V_elderB (by (with_reducible repeat (first | apply Kd.V_alloc | apply Kd.V_drewN | apply Kd.V_drew)); exact HL193_0.out) gb194 (Nat.le_of_eq hg.symm)) hb); replace HR193_0 := Aside0.mk (Kd.C_below HR193_0.out hb); have BK194 := Aside0.mk (hbox); have GW194 := gw_ HB.out hg; have GE194 := gw_ HB.out hg; replace HB := Aside0.mk (below_step HB.out hb); clear hb hbox hg; have hcz14_0 := cz0_ BK194; have hcz14_1 := cz1_ BK194; have hfz14_0 := blk_frozen BK194.out 0; have hfz14_1 := blk_frozen BK194.out 1) | ((with_reducible refine gate_callee (f := 50) rfl ?_); refine goesL_ (some 14) rfl rfl Try.func50 (by kernel_rfl) rfl #[.slice A193_0 ((rd_T56 l0 x8_1).f0).length c193_0] rfl (by (try simp only [List.map_toArray, List.map_cons, List.map_nil]); rfl) ?_; (with_reducible refine (hushref2_Small.calls k1 _ _ ((rd_T56 l0 x8_1).f0) true _ ?side1 ?side2 A5.out).mono ?_); (case side1 => repeat ((exact ((Kd.V_reads' (by (with_reducible repeat (first | apply Kd.V_alloc | apply Kd.V_drewN | apply Kd.V_drew)); exact (Kd.V_mono (Kd.V_far (p := ⟨gb194, 1, none⟩) (Kd.V_far (p := ⟨gb194, 0, none⟩) (Kd.V_mono HL193_0.out (fun k_ hk => (⟨hk, hk.2⟩ : _ ∧ k_ ≠ gb194))) (fun _ hk => hk.2) (.slice A193_0 ((rd_T56 l0 x8_1).f0).length c193_0)) (fun _ hk => hk.2) (.int .i64 ((rd_T56 l0 x8_1).f1))) (fun _ h_ => h_.1)))).2.2)))); (case side2 => exact HC193_0.out); rintro e w' ⟨rfl, ⟨nd, rfl⟩⟩; refine ⟨_, rfl, ?_⟩))
         go_roundg k1
         case measure => have := HK1.out; omega
         case rel => exact ⟨(wrap64 (x8_1 + 1)), rfl, H', ⟨by have := HK1.out; omega⟩, ⟨by (with_reducible repeat (apply Kd.V_drewN)); exact Kd.V_mono (Kd.V_far (p := ⟨gb194, 1, none⟩) (Kd.V_far (p := ⟨gb194, 0, none⟩) (Kd.V_mono HO_0.out (fun k_ hk => (⟨hk, hk.2⟩ : _ ∧ k_ ≠ gb194))) (fun _ hk => hk.2) (.slice A193_0 ((rd_T56 l0 x8_1).f0).length c193_0)) (fun _ hk => hk.2) (.int .i64 ((rd_T56 l0 x8_1).f1))) (fun _ hk => hk.1.1)⟩, ⟨by (with_reducible repeat (apply Kd.V_drewN)); exact Kd.V_mono (Kd.V_far (p := ⟨gb194, 1, none⟩) (Kd.V_far (p := ⟨gb194, 0, none⟩) (Kd.V_mono HO_6.out (fun k_ hk => (⟨hk, hk.2⟩ : _ ∧ k_ ≠ gb194))) (fun _ hk => hk.2) (.slice A193_0 ((rd_T56 l0 x8_1).f0).length c193_0)) (fun _ hk => hk.2) (.int .i64 ((rd_T56 l0 x8_1).f1))) (fun _ hk => hk.1.1)⟩, ⟨by repeat (with_reducible first | exact HB.out | apply pw_below_drewN | refine below_set ?_ GE194.out)⟩⟩
      ·
       replace c6 := Bool.eq_false_iff.mpr c6
       subst c6
       rw [if_neg (show ¬ (false = true) by decide)] at H
       simp only [Option.some.injEq, Prod.mk.injEq] at H
       obtain ⟨rfl, rfl⟩ := H
       have p193 : 0 ≤ (x8_1 : Int) := of_decide_eq_true (by (with_reducible assumption))
       have q193 : x8_1 < (l0.length : Int) := of_decide_eq_true (by (with_reducible assumption))
       obtain ⟨ad193, A193_0, c193_0, e193, hx193_0, hx193_1, hl193_0, hi193_0⟩ := at_T56 (Kd.V_reads' HO_6.out).2.2 x8_1 p193 q193
       cases e193
       obtain ⟨ce193, hce193, hMe193, hcc193⟩ := Kd.V_get HO_6.out z56 x8_1 p193 (by exact q193)
       obtain ⟨ua193_0, uc193_0, rfl, ul193_0, ge193_0⟩ := k56_openF hMe193
       have hv193_0 := hcc193 0 _ rfl
       rw [Nat.add_zero] at hv193_0
       replace hv193_0 := Option.some.inj (hv193_0.symm.trans hx193_0)
       injection hv193_0 with hva_ hvn_ hvc_
       rw [hva_] at ge193_0
       rw [hvc_] at ul193_0
       have HL193_0 := Aside0.mk (show Kd.V (Kd.int .i64) 3 _ w.heap.size _ _ ((rd_T56 l0 x8_1).f0) from Kd.V_mk ul193_0 ge193_0)
       clear hva_ hvn_ hvc_ ge193_0 ul193_0
       clear hcc193 hce193
       have HR193_0 := Aside0.mk hi193_0
       have HC193_0 := Aside0.mk hl193_0
       clear hi193_0 hl193_0
       replace p193 := eq_true p193
       replace q193 := eq_true q193
       go_wp2_with (first | ((with_reducible refine gate_dst (N := 5) rfl ?_); refine box_event ?hg (N := 5) ?hd (cs := #[.slice none 0 0, .int .i64 0]) (t := 56) ?hr ?_; (case hd | hg => rfl); (case hr => go_simp; done); intro gb194 hg w15 hbox hb; replace HO_0 := Aside0.mk (Kd.V_below (Kd.V_elderB (by (with_reducible repeat (first | apply Kd.V_alloc | apply Kd.V_drewN | apply Kd.V_drew)); exact HO_0.out) gb194 (Nat.le_of_eq hg.symm)) hb); replace HO_6 := Aside0.mk (Kd.V_below (Kd.V_elderB (by (with_reducible repeat (first | apply Kd.V_alloc | apply Kd.V_drewN | apply Kd.V_drew)); exact HO_6.out) gb194 (Nat.le_of_eq hg.symm)) hb); replace HL193_0 := Aside0.mk (Kd.V_below (Kd.V_elderB (by (with_reducible repeat (first | apply Kd.V_alloc | apply Kd.V_drewN | apply Kd.V_drew)); exact HL193_0.out) gb194 (Nat.le_of_eq hg.symm)) hb); replace HR193_0 := Aside0.mk (Kd.C_below HR193_0.out hb); have BK194 := Aside0.mk (hbox); have GW194 := gw_ HB.out hg; have GE194 := gw_ HB.out hg; replace HB := Aside0.mk (below_step HB.out hb); clear hb hbox hg; have hcz16_0 := cz0_ BK194; have hcz16_1 := cz1_ BK194; have hfz16_0 := blk_frozen BK194.out 0; have hfz16_1 := blk_frozen BK194.out 1) | ((with_reducible refine gate_callee (f := 50) rfl ?_); refine goesL_ (some 14) rfl rfl Try.func50 (by kernel_rfl) rfl #[.slice A193_0 ((rd_T56 l0 x8_1).f0).length c193_0] rfl (by (try simp only [List.map_toArray, List.map_cons, List.map_nil]); rfl) ?_; (with_reducible refine (hushref2_Small.calls k1 _ _ ((rd_T56 l0 x8_1).f0) false _ ?side1 ?side2 A5.out).mono ?_); (case side1 => repeat ((exact ((Kd.V_reads' (by (with_reducible repeat (first | apply Kd.V_alloc | apply Kd.V_drewN | apply Kd.V_drew)); exact (Kd.V_mono (Kd.V_far (p := ⟨gb194, 1, none⟩) (Kd.V_far (p := ⟨gb194, 0, none⟩) (Kd.V_mono HL193_0.out (fun k_ hk => (⟨hk, hk.2⟩ : _ ∧ k_ ≠ gb194))) (fun _ hk => hk.2) (.slice A193_0 ((rd_T56 l0 x8_1).f0).length c193_0)) (fun _ hk => hk.2) (.int .i64 ((rd_T56 l0 x8_1).f1))) (fun _ h_ => h_.1)))).2.2)))); (case side2 => exact HC193_0.out); rintro e w' ⟨rfl, ⟨nd, rfl⟩⟩; refine ⟨_, rfl, ?_⟩))
       go_ret2
       exact ⟨_, rfl, by exact Kd.N_nil _ _ _ _ _, by repeat (with_reducible first | exact HB.out | apply pw_below_drewN | refine below_set ?_ GE194.out)⟩
     ·
      rw [if_neg c4] at H
      exact absurd H (by simp)
    ·
     rw [if_neg c3] at H
     exact absurd H (by simp)
   ·
    rw [if_neg c2] at H
    have c2b0 : decide (x8_1 < (l0.length : Int)) = false := decide_eq_false c2
    clear c2
    obtain ⟨⟨t196, t199⟩, A17, H⟩ := bnd_ H
    dsimp only at H
    simp only [Option.some.injEq, Prod.mk.injEq] at H
    obtain ⟨rfl, rfl⟩ := H
    go_wp2_with (((with_reducible refine gate_callee (f := 51) rfl ?_); refine goesL_ (some 28) rfl rfl Try.func51 (by kernel_rfl) rfl #[.slice A0 l0.length c0] rfl (by (try simp only [List.map_toArray, List.map_cons, List.map_nil]); rfl) ?_; (with_reducible refine (hushref2_Tidy.calls k1 (fun k_ => (P0_ k_ ∨ w.heap.size ≤ k_)) _ _ l0 t196 t199 _ ?side1 A17.out).mono ?_); (case side1 => exact HO_0.out); rintro e w18 ⟨v197, rfl, ho0, hb⟩; refine ⟨_, rfl, ?_⟩; replace HO_0 := Aside0.mk (Kd.V_elder' (by (with_reducible repeat (first | apply Kd.V_alloc | apply Kd.V_drewN | apply Kd.V_drew)); exact HO_0.out) (Kd.N_base ho0) hb); replace HO_6 := Aside0.mk (Kd.V_elder' (by (with_reducible repeat (first | apply Kd.V_alloc | apply Kd.V_drewN | apply Kd.V_drew)); exact HO_6.out) (Kd.N_base ho0) hb); have HO198 := Aside0.mk (Kd.N_lower (Kd.N_mono (ok' := fun k_ => (P0_ k_ ∨ w.heap.size ≤ k_)) ho0 (fun k_ hk_ => Or.elim hk_ (fun hs_ => hs_) (fun hn_ => (.inr (Nat.le_trans (below_size HB.out) hn_))))) (below_size HB.out)); replace HB := Aside0.mk (below_step HB.out hb); (try clear hb); (try clear ho0)))
    go_ret2
    exact ⟨_, rfl, by (with_reducible repeat (first | apply Kd.N_alloc | apply Kd.N_drewN | apply Kd.N_drew)); exact HO198.out, HB.out⟩

end Go.Proofs.Yteajcjalpofalaa.PA


/- Functions of the program in Lean, by wip/xprint.py. Conditions: in each theorem. -/
import Derived.Test.YtkemhfhmlcljjaaPRxs
import Derived.Test.YtkemhfhmlcljjaaPRx0
import Derived.Test.YtkemhfhmlcljjaaPRx1
namespace Go.Proofs.Ytkemhfhmlcljjaa.PR
open Go.RowKit Go.Proofs.YtkemhfhmlcljjaaW.PrintWords Go.Proofs.YtkemhfhmlcljjaaW.PrintLast Go.Proofs.YtkemhfhmlcljjaaW.PrintMore
attribute [local go_sem] max2_int min2_int max_two min_two max_three min_three max_four min_four   -- for this text's walks alone
set_option linter.unusedVariables false
set_option linter.unusedSimpArgs false

/-! ### plain_Then: function 22 -/
def plain_Then.l0 : Nat → List Int → List (S45) → Int → Int → Option ((List (S32)))
 | 0, _, _, _, _ => none
 | k + 1, x1, x7, x8, x9 => if x9 < x8 then (if 0 ≤ x9 then (if x9 < (x7.length : Int) then ((slices_Equal_int_int.f k ((rd_T45 x7 x9).f0) x1).bind fun t158 => (if t158 = true then (some ((rd_T45 x7 x9).f1)) else (plain_Then.l0 k x1 x7 x8 (wrap64 (x9 + 1))))) else (none)) else (none)) else (some (([(⟨x1, 1⟩ : S32)] : List (S32))))
def plain_Then.f (k : Nat) (l0 : List (S45)) (l1 : List Int) : Option ((List (S32))) := plain_Then.l0 k l1 l0 (l0.length : Int) 0
theorem plain_Then.mono_l : ∀ k, (∀ y0 y1 y2 y3, LeO (plain_Then.l0 k y0 y1 y2 y3) (plain_Then.l0 (k + 1) y0 y1 y2 y3))
 | 0 => fun _ _ _ _ r h => by simp [plain_Then.l0] at h
 | k + 1 => by
  have ih0 := plain_Then.mono_l k
  ·
   intro y0 y1 y2 y3
   unfold plain_Then.l0
   repeat' first
   | (with_reducible exact ih0 _ _ _ _)
   | (with_reducible exact slices_Equal_int_int.mono _ _ _)
   | (with_reducible exact LeO.refl _)
   | (with_reducible refine LeO.ite ?_ ?_)
   | (with_reducible refine LeO.bind ?_ (fun _ => ?_))
theorem plain_Then.mono : ∀ a0 a1 k, LeO (plain_Then.f k a0 a1) (plain_Then.f (k + 1) a0 a1) := by
 intro a0 a1 k
 have ih0 := plain_Then.mono_l k
 unfold plain_Then.f
 repeat' (with_reducible exact ih0 _ _ _ _)
set_option maxHeartbeats 8000000 in
set_option maxRecDepth 100000 in
theorem plain_Then.calls (k : Nat) (P0_ : Nat → Prop) (A0 : Option Addr) (c0 : Nat) (l0 : List (S45)) (P1_ : Nat → Prop) (A1 : Option Addr) (c1 : Nat) (l1 : List Int) (r : List (S32)) (w : World) (hs0 : Kd.V k45 45 w w.heap.size (fun k_ => P0_ k_) (.slice A0 l0.length c0) l0) (hs1 : Kd.V (Kd.int .i64) 3 w w.heap.size (fun k_ => P1_ k_) (.slice A1 l1.length c1) l1) (h : plain_Then.f k l0 l1 = some r) :
  Calls Try.prog 22 #[.slice A0 l0.length c0, .slice A1 l1.length c1] w fun e w' => ∃ v0_ : Value, e = .returned (v0_) ∧ Kd.V k32 32 w' w.heap.size (fun k_ => ((P0_ k_ ∨ P1_ k_) ∨ w.heap.size ≤ k_)) v0_ r ∧ Below w.heap.size w w' := by
 have hu45 := Try.underlying45
 have hu32 := Try.underlying32
 have HO0 := Aside0.mk (show Kd.V k45 45 w w.heap.size (fun k_ => ((P0_ k_ ∨ P1_ k_) ∨ w.heap.size ≤ k_)) (.slice A0 l0.length c0) l0 from Kd.V_mono hs0 (fun k_ hk => .inl (.inl hk)))
 have HO1 := Aside0.mk (show Kd.V (Kd.int .i64) 3 w w.heap.size (fun k_ => ((P0_ k_ ∨ P1_ k_) ∨ w.heap.size ≤ k_)) (.slice A1 l1.length c1) l1 from Kd.V_mono hs1 (fun k_ hk => .inl (.inr hk)))
 have HB := Aside0.mk (Below.refl w.heap.size w)
 have H : (plain_Then.l0 k l1 l0 (l0.length : Int) 0) = some r := h
 clear h
 have H' := Aside0.mk H
 clear H
 go_enter Try.func22, Try.ntmps22
 go_wp2
 go_loopg [9] k (fun kq v9 w' => ∃ (x9_1 : Int), v9 = .int .i64 x9_1 ∧ Aside0 (plain_Then.l0 kq l1 l0 (l0.length : Int) x9_1 = some r) ∧ Aside0 (kq ≤ k) ∧ Aside0 (Kd.V (Kd.int .i64) 3 w' w.heap.size (fun k_ => ((P0_ k_ ∨ P1_ k_) ∨ w.heap.size ≤ k_)) (.slice A1 l1.length c1) l1) ∧ Aside0 (Kd.V k45 45 w' w.heap.size (fun k_ => ((P0_ k_ ∨ P1_ k_) ∨ w.heap.size ≤ k_)) (.slice A0 l0.length c0) l0) ∧ Aside0 (Below w.heap.size w w'))
 case atStart => exact ⟨(0), rfl, H', ⟨Nat.le_refl _⟩, ⟨by (with_reducible repeat (first | apply Kd.V_alloc | apply Kd.V_drewN | apply Kd.V_drew)); exact HO1.out⟩, ⟨by (with_reducible repeat (first | apply Kd.V_alloc | apply Kd.V_drewN | apply Kd.V_drew)); exact HO0.out⟩, ⟨HB.out⟩⟩
 case round =>
  clear H'
  obtain ⟨x9_1, rfl, HA, HK1, HO_1, HO_7, HB⟩ := hrel
  cases gk with
  | zero => exact absurd HA.out (by simp [plain_Then.l0])
  | succ k1 =>
   have H := HA.out
   clear HA
   simp only [plain_Then.l0] at H
   by_cases c3 : x9_1 < (l0.length : Int)
   ·
    rw [if_pos c3] at H
    have c3b0 : decide (x9_1 < (l0.length : Int)) = true := decide_eq_true c3
    clear c3
    by_cases c4 : 0 ≤ x9_1
    ·
     rw [if_pos c4] at H
     have c4b0 : decide (0 ≤ x9_1) = true := decide_eq_true c4
     clear c4
     by_cases c5 : x9_1 < (l0.length : Int)
     ·
      rw [if_pos c5] at H
      have c5b0 : decide (x9_1 < (l0.length : Int)) = true := decide_eq_true c5
      clear c5
      obtain ⟨t158, A6, H⟩ := bnd_ H
      by_cases c7 : t158 = true
      ·
       subst c7
       rw [if_pos rfl] at H
       obtain rfl := Option.some.inj H
       have p156 : 0 ≤ (x9_1 : Int) := of_decide_eq_true (by (with_reducible assumption))
       have q156 : x9_1 < (l0.length : Int) := of_decide_eq_true (by (with_reducible assumption))
       obtain ⟨ad156, A156_0, c156_0, A156_1, c156_1, e156, hx156_0, hx156_1, hl156_0, hi156_0, hl156_1, hi156_1⟩ := at_T45 (Kd.V_reads' HO_7.out).2.2 x9_1 p156 q156
       cases e156
       obtain ⟨ce156, hce156, hMe156, hcc156⟩ := Kd.V_get HO_7.out z45 x9_1 p156 (by exact q156)
       obtain ⟨ua156_0, uc156_0, ua156_1, uc156_1, rfl, ul156_0, ge156_0, ul156_1, ge156_1⟩ := k45_openF hMe156
       have hv156_0 := hcc156 0 _ rfl
       rw [Nat.add_zero] at hv156_0
       replace hv156_0 := Option.some.inj (hv156_0.symm.trans hx156_0)
       injection hv156_0 with hva_ hvn_ hvc_
       rw [hva_] at ge156_0
       rw [hvc_] at ul156_0
       have HL156_0 := Aside0.mk (show Kd.V (Kd.int .i64) 3 _ w.heap.size _ _ ((rd_T45 l0 x9_1).f0) from Kd.V_mk ul156_0 ge156_0)
       clear hva_ hvn_ hvc_ ge156_0 ul156_0
       have hv156_1 := hcc156 1 _ rfl
       rw [add_field _ _ 1 (by omega)] at hv156_1
       replace hv156_1 := Option.some.inj (hv156_1.symm.trans hx156_1)
       injection hv156_1 with hva_ hvn_ hvc_
       rw [hva_] at ge156_1
       rw [hvc_] at ul156_1
       have HL156_1 := Aside0.mk (show Kd.V k32 32 _ w.heap.size _ _ ((rd_T45 l0 x9_1).f1) from Kd.V_mk ul156_1 ge156_1)
       clear hva_ hvn_ hvc_ ge156_1 ul156_1
       clear hcc156 hce156
       have HR156_0 := Aside0.mk hi156_0
       have HC156_0 := Aside0.mk hl156_0
       clear hi156_0 hl156_0
       have HR156_1 := Aside0.mk hi156_1
       have HC156_1 := Aside0.mk hl156_1
       clear hi156_1 hl156_1
       replace p156 := eq_true p156
       replace q156 := eq_true q156
       go_wp2_with (first | ((with_reducible refine gate_dst (N := 6) rfl ?_); refine box_event ?hg (N := 6) ?hd (cs := #[.slice none 0 0, .slice none 0 0]) (t := 45) ?hr ?_; (case hd | hg => rfl); (case hr => go_simp; done); intro gb157 hg w8 hbox hb; replace HO_1 := Aside0.mk (Kd.V_below (Kd.V_elderB (by (with_reducible repeat (first | apply Kd.V_alloc | apply Kd.V_drewN | apply Kd.V_drew)); exact HO_1.out) gb157 (Nat.le_of_eq hg.symm)) hb); replace HO_7 := Aside0.mk (Kd.V_below (Kd.V_elderB (by (with_reducible repeat (first | apply Kd.V_alloc | apply Kd.V_drewN | apply Kd.V_drew)); exact HO_7.out) gb157 (Nat.le_of_eq hg.symm)) hb); replace HL156_0 := Aside0.mk (Kd.V_below (Kd.V_elderB (by (with_reducible repeat (first | apply Kd.V_alloc | apply Kd.V_drewN | apply Kd.V_drew)); exact HL156_0.out) gb157 (Nat.le_of_eq hg.symm)) hb); replace HL156_1 := Aside0.mk (Kd.V_below (Kd.V_elderB (by (with_reducible repeat (first | apply Kd.V_alloc | apply Kd.V_drewN | apply Kd.V_drew)); exact HL156_1.out) gb157 (Nat.le_of_eq hg.symm)) hb); replace HR156_0 := Aside0.mk (Kd.C_below HR156_0.out hb); replace HR156_1 := Aside0.mk (Kd.C_below HR156_1.out hb); have BK157 := Aside0.mk (hbox); have GW157 := gw_ HB.out hg; have GE157 := gw_ HB.out hg; replace HB := Aside0.mk (below_step HB.out hb); clear hb hbox hg; have hcz9_0 := cz0_ BK157; have hcz9_1 := cz1_ BK157; have hfz9_0 := blk_frozen BK157.out 0; have hfz9_1 := blk_frozen BK157.out 1) | ((with_reducible refine gate_callee (f := 46) rfl ?_); refine goesL_ (some 16) rfl rfl Try.func46 (by kernel_rfl) rfl #[.slice A156_0 ((rd_T45 l0 x9_1).f0).length c156_0, .slice A1 l1.length c1] rfl (by (try simp only [List.map_toArray, List.map_cons, List.map_nil]); rfl) ?_; (with_reducible refine (slices_Equal_int_int.calls k1 _ _ ((rd_T45 l0 x9_1).f0) _ _ l1 true _ ?side1 ?side2 ?side3 ?side4 A6.out).mono ?_); (case side1 => repeat ((exact ((Kd.V_reads' (by (with_reducible repeat (first | apply Kd.V_alloc | apply Kd.V_drewN | apply Kd.V_drew)); exact (Kd.V_mono (Kd.V_far (p := ⟨gb157, 1, none⟩) (Kd.V_far (p := ⟨gb157, 0, none⟩) (Kd.V_mono HL156_0.out (fun k_ hk => (⟨hk, hk.2⟩ : _ ∧ k_ ≠ gb157))) (fun _ hk => hk.2) (.slice A156_0 ((rd_T45 l0 x9_1).f0).length c156_0)) (fun _ hk => hk.2) (.slice A156_1 ((rd_T45 l0 x9_1).f1).length c156_1)) (fun _ h_ => h_.1)))).2.2)))); (case side2 => exact HC156_0.out); (case side3 => refine (Kd.V_reads' (e := 3) (base := w.heap.size) (ok := fun k_ => (((P0_ k_ ∨ P1_ k_) ∨ w.heap.size ≤ k_) ∧ k_ ≠ gb157)) (n := l1.length) (c := c1) ?_).2.2; exact (by (with_reducible repeat (first | apply Kd.V_alloc | apply Kd.V_drewN | apply Kd.V_drew)); exact (Kd.V_mono (Kd.V_far (p := ⟨gb157, 1, none⟩) (Kd.V_far (p := ⟨gb157, 0, none⟩) (Kd.V_mono HO_1.out (fun k_ hk => (⟨hk, hk.2⟩ : _ ∧ k_ ≠ gb157))) (fun _ hk => hk.2) (.slice A156_0 ((rd_T45 l0 x9_1).f0).length c156_0)) (fun _ hk => hk.2) (.slice A156_1 ((rd_T45 l0 x9_1).f1).length c156_1)) (fun _ h_ => h_.1)))); (case side4 => exact (Kd.V_reads' HO_1.out).2.1); rintro e w' ⟨rfl, ⟨nd, rfl⟩⟩; refine ⟨_, rfl, ?_⟩))
       go_ret
       exact ⟨_, rfl, by (with_reducible repeat (apply Kd.V_drewN)); exact Kd.V_mono (Kd.V_far (p := ⟨gb157, 1, none⟩) (Kd.V_far (p := ⟨gb157, 0, none⟩) (Kd.V_mono HL156_1.out (fun k_ hk => (⟨hk, hk.2⟩ : _ ∧ k_ ≠ gb157))) (fun _ hk => hk.2) (.slice A156_0 ((rd_T45 l0 x9_1).f0).length c156_0)) (fun _ hk => hk.2) (.slice A156_1 ((rd_T45 l0 x9_1).f1).length c156_1)) (fun _ hk => hk.1.1), by repeat (with_reducible first | exact HB.out | apply pw_below_drewN | refine below_set ?_ GE157.out)⟩
      ·
       replace c7 := Bool.eq_false_iff.mpr c7
       subst c7
       rw [if_neg (show ¬ (false = true) by decide)] at H
       have H' := Aside0.mk H
       clear H
       have p156 : 0 ≤ (x9_1 : Int) := of_decide_eq_true (by (with_reducible assumption))
       have q156 : x9_1 < (l0.length : Int) := of_decide_eq_true (by (with_reducible assumption))
       obtain ⟨ad156, A156_0, c156_0, A156_1, c156_1, e156, hx156_0, hx156_1, hl156_0, hi156_0, hl156_1, hi156_1⟩ := at_T45 (Kd.V_reads' HO_7.out).2.2 x9_1 p156 q156
       cases e156
       obtain ⟨ce156, hce156, hMe156, hcc156⟩ := Kd.V_get HO_7.out z45 x9_1 p156 (by exact q156)
       obtain ⟨ua156_0, uc156_0, ua156_1, uc156_1, rfl, ul156_0, ge156_0, ul156_1, ge156_1⟩ := k45_openF hMe156
       have hv156_0 := hcc156 0 _ rfl
       rw [Nat.add_zero] at hv156_0
       replace hv156_0 := Option.some.inj (hv156_0.symm.trans hx156_0)
       injection hv156_0 with hva_ hvn_ hvc_
       rw [hva_] at ge156_0
       rw [hvc_] at ul156_0
       have HL156_0 := Aside0.mk (show Kd.V (Kd.int .i64) 3 _ w.heap.size _ _ ((rd_T45 l0 x9_1).f0) from Kd.V_mk ul156_0 ge156_0)
       clear hva_ hvn_ hvc_ ge156_0 ul156_0
       have hv156_1 := hcc156 1 _ rfl
       rw [add_field _ _ 1 (by omega)] at hv156_1
       replace hv156_1 := Option.some.inj (hv156_1.symm.trans hx156_1)
       injection hv156_1 with hva_ hvn_ hvc_
       rw [hva_] at ge156_1
       rw [hvc_] at ul156_1
       have HL156_1 := Aside0.mk (show Kd.V k32 32 _ w.heap.size _ _ ((rd_T45 l0 x9_1).f1) from Kd.V_mk ul156_1 ge156_1)
       clear hva_ hvn_ hvc_ ge156_1 ul156_1
       clear hcc156 hce156
       have HR156_0 := Aside0.mk hi156_0
       have HC156_0 := Aside0.mk hl156_0
       clear hi156_0 hl156_0
       have HR156_1 := Aside0.mk hi156_1
       have HC156_1 := Aside0.mk hl156_1
       clear hi156_1 hl156_1
       replace p156 := eq_true p156
       replace q156 := eq_true q156
       go_wp2_with (first | ((with_reducible refine gate_dst (N := 6) rfl ?_); refine box_event ?hg (N := 6) ?hd (cs := #[.slice none 0 0, .slice none 0 0]) (t := 45) ?hr ?_; (case hd | hg => rfl); (case hr => go_simp; done); intro gb157 hg w10 hbox hb; replace HO_1 := Aside0.mk (Kd.V_below (Kd.V_elderB (by (with_reducible repeat (first | apply Kd.V_alloc | apply Kd.V_drewN | apply Kd.V_drew)); exact HO_1.out) gb157 (Nat.le_of_eq hg.symm)) hb); replace HO_7 := Aside0.mk (Kd.V_below (Kd.V_elderB (by (with_reducible repeat (first | apply Kd.V_alloc | apply Kd.V_drewN | apply Kd.V_drew)); exact HO_7.out) gb157 (Nat.le_of_eq hg.symm)) hb); replace HL156_0 := Aside0.mk (Kd.V_below (Kd.V_elderB (by (with_reducible repeat (first | apply Kd.V_alloc | apply Kd.V_drewN | apply Kd.V_drew)); exact HL156_0.out) gb157 (Nat.le_of_eq hg.symm)) hb); replace HL156_1 := Aside0.mk (Kd.V_below (Kd.V_elderB (by (with_reducible repeat (first | apply Kd.V_alloc | apply Kd.V_drewN | apply Kd.V_drew)); exact HL156_1.out) gb157 (Nat.le_of_eq hg.symm)) hb); replace HR156_0 := Aside0.mk (Kd.C_below HR156_0.out hb); replace HR156_1 := Aside0.mk (Kd.C_below HR156_1.out hb); have BK157 := Aside0.mk (hbox); have GW157 := gw_ HB.out hg; have GE157 := gw_ HB.out hg; replace HB := Aside0.mk (below_step HB.out hb); clear hb hbox hg; have hcz11_0 := cz0_ BK157; have hcz11_1 := cz1_ BK157; have hfz11_0 := blk_frozen BK157.out 0; have hfz11_1 := blk_frozen BK157.out 1) | ((with_reducible refine gate_callee (f := 46) rfl ?_); refine goesL_ (some 16) rfl rfl Try.func46 (by kernel_rfl) rfl #[.slice A156_0 ((rd_T45 l0 x9_1).f0).length c156_0, .slice A1 l1.length c1] rfl (by (try simp only [List.map_toArray, List.map_cons, List.map_nil]); rfl) ?_; (with_reducible refine (slices_Equal_int_int.calls k1 _ _ ((rd_T45 l0 x9_1).f0) _ _ l1 false _ ?side1 ?side2 ?side3 ?side4 A6.out).mono ?_); (case side1 => repeat ((exact ((Kd.V_reads' (by (with_reducible repeat (first | apply Kd.V_alloc | apply Kd.V_drewN | apply Kd.V_drew)); exact (Kd.V_mono (Kd.V_far (p := ⟨gb157, 1, none⟩) (Kd.V_far (p := ⟨gb157, 0, none⟩) (Kd.V_mono HL156_0.out (fun k_ hk => (⟨hk, hk.2⟩ : _ ∧ k_ ≠ gb157))) (fun _ hk => hk.2) (.slice A156_0 ((rd_T45 l0 x9_1).f0).length c156_0)) (fun _ hk => hk.2) (.slice A156_1 ((rd_T45 l0 x9_1).f1).length c156_1)) (fun _ h_ => h_.1)))).2.2)))); (case side2 => exact HC156_0.out); (case side3 => refine (Kd.V_reads' (e := 3) (base := w.heap.size) (ok := fun k_ => (((P0_ k_ ∨ P1_ k_) ∨ w.heap.size ≤ k_) ∧ k_ ≠ gb157)) (n := l1.length) (c := c1) ?_).2.2; exact (by (with_reducible repeat (first | apply Kd.V_alloc | apply Kd.V_drewN | apply Kd.V_drew)); exact (Kd.V_mono (Kd.V_far (p := ⟨gb157, 1, none⟩) (Kd.V_far (p := ⟨gb157, 0, none⟩) (Kd.V_mono HO_1.out (fun k_ hk => (⟨hk, hk.2⟩ : _ ∧ k_ ≠ gb157))) (fun _ hk => hk.2) (.slice A156_0 ((rd_T45 l0 x9_1).f0).length c156_0)) (fun _ hk => hk.2) (.slice A156_1 ((rd_T45 l0 x9_1).f1).length c156_1)) (fun _ h_ => h_.1)))); (case side4 => exact (Kd.V_reads' HO_1.out).2.1); rintro e w' ⟨rfl, ⟨nd, rfl⟩⟩; refine ⟨_, rfl, ?_⟩))
       go_roundg k1
       case measure => have := HK1.out; omega
       case rel => exact ⟨(wrap64 (x9_1 + 1)), rfl, H', ⟨by have := HK1.out; omega⟩, ⟨by (with_reducible repeat (apply Kd.V_drewN)); exact Kd.V_mono (Kd.V_far (p := ⟨gb157, 1, none⟩) (Kd.V_far (p := ⟨gb157, 0, none⟩) (Kd.V_mono HO_1.out (fun k_ hk => (⟨hk, hk.2⟩ : _ ∧ k_ ≠ gb157))) (fun _ hk => hk.2) (.slice A156_0 ((rd_T45 l0 x9_1).f0).length c156_0)) (fun _ hk => hk.2) (.slice A156_1 ((rd_T45 l0 x9_1).f1).length c156_1)) (fun _ hk => hk.1.1)⟩, ⟨by (with_reducible repeat (apply Kd.V_drewN)); exact Kd.V_mono (Kd.V_far (p := ⟨gb157, 1, none⟩) (Kd.V_far (p := ⟨gb157, 0, none⟩) (Kd.V_mono HO_7.out (fun k_ hk => (⟨hk, hk.2⟩ : _ ∧ k_ ≠ gb157))) (fun _ hk => hk.2) (.slice A156_0 ((rd_T45 l0 x9_1).f0).length c156_0)) (fun _ hk => hk.2) (.slice A156_1 ((rd_T45 l0 x9_1).f1).length c156_1)) (fun _ hk => hk.1.1)⟩, ⟨by repeat (with_reducible first | exact HB.out | apply pw_below_drewN | refine below_set ?_ GE157.out)⟩⟩
     ·
      rw [if_neg c5] at H
      exact absurd H (by simp)
    ·
     rw [if_neg c4] at H
     exact absurd H (by simp)
   ·
    rw [if_neg c3] at H
    have c3b0 : decide (x9_1 < (l0.length : Int)) = false := decide_eq_false c3
    clear c3
    obtain ⟨y159, hy159⟩ : ∃ y_ : List (S32), y_ = (([(⟨l1, 1⟩ : S32)] : List (S32))) := ⟨_, rfl⟩
    replace H : (some y159) = some r := by (rw [hy159]; with_reducible exact H)
    have Ny159 := Aside0.mk hy159
    clear hy159
    obtain rfl := Option.some.inj H
    go_wp2_with (((with_reducible refine gate_dst (N := 22) rfl ?_); refine Kd.N_lit k32 _ 32 ?hg (N' := 22) ?hd (xs := ([(⟨l1, 1⟩ : S32)] : List (S32))) (inner := [.slice A1 l1.length c1, .int .i64 1]) (ok := (fun k_ => ((P0_ k_ ∨ P1_ k_) ∨ w.heap.size ≤ k_))) (okp := (fun k_ => ((P0_ k_ ∨ P1_ k_) ∨ w.heap.size ≤ k_))) ?hr ?hp (fun _ hk => hk) ((show ∀ k_, wr.heap.size ≤ k_ → (fun k_ => ((P0_ k_ ∨ P1_ k_) ∨ w.heap.size ≤ k_)) k_ from fun k_ hk => (.inr (Nat.le_trans (below_size HB.out) hk))) _ (Nat.le_refl _)) (Below.refl _ _) (Nat.le_refl _) (by simp) ?_; (case hd | hg => rfl); (case hr => go_simp; done); (case hp => exact (Reps.c2 (show Kd.FK k32 _ _ (⟨l1, 1⟩ : S32) [.slice A1 l1.length c1, .int .i64 1] from (k32_mkF _ _ (⟨l1, 1⟩ : S32) (Kd.V_reads' (Kd.V_mono (ok' := (fun k_ => ((P0_ k_ ∨ P1_ k_) ∨ w.heap.size ≤ k_))) (HO_1.out) (fun k_ hk => hk))).2.1 (Kd.V_F (Kd.V_mono (ok' := (fun k_ => ((P0_ k_ ∨ P1_ k_) ∨ w.heap.size ≤ k_))) (HO_1.out) (fun k_ hk => hk))))) (Reps.none _ _))); intro v160 w12 ho13 hb hg_ hnew_; clear hg_ hnew_; (rw [← Ny159.out] at ho13); replace HO_1 := Aside0.mk (Kd.V_elder' (by (with_reducible repeat (first | apply Kd.V_alloc | apply Kd.V_drewN | apply Kd.V_drew)); exact HO_1.out) (Kd.N_base ho13) hb); replace HO_7 := Aside0.mk (Kd.V_elder' (by (with_reducible repeat (first | apply Kd.V_alloc | apply Kd.V_drewN | apply Kd.V_drew)); exact HO_7.out) (Kd.N_base ho13) hb); have HO161 := Aside0.mk (Kd.N_lower ho13 (below_size HB.out)); replace HB := Aside0.mk (below_step HB.out hb); clear hb ho13))
    go_ret
    exact ⟨_, rfl, Kd.N_V (by (with_reducible repeat (first | apply Kd.N_alloc | apply Kd.N_drewN | apply Kd.N_drew)); exact HO161.out), HB.out⟩

/-! ### plain_Bind_1: function 55 -/
def plain_Bind_1.f (k : Nat) (l0 : List Int) (l1 : List (S45)) : Option ((List (S32)) × Int) := (plain_Then.f k l1 l0).bind fun t162 => (some (t162, 0))
theorem plain_Bind_1.mono : ∀ a0 a1 k, LeO (plain_Bind_1.f k a0 a1) (plain_Bind_1.f (k + 1) a0 a1) := by
 intro a0 a1 k
 unfold plain_Bind_1.f
 repeat' first
   | (with_reducible exact plain_Then.mono _ _ _)
   | (with_reducible exact LeO.refl _)
   | (with_reducible refine LeO.bind ?_ (fun _ => ?_))
set_option maxHeartbeats 8000000 in
set_option maxRecDepth 100000 in
theorem plain_Bind_1.calls (k : Nat) (P0_ : Nat → Prop) (A0 : Option Addr) (c0 : Nat) (l0 : List Int) (P1_ : Nat → Prop) (A1 : Option Addr) (c1 : Nat) (l1 : List (S45)) (r1 : List (S32)) (r2 : Int) (w : World) (hs0 : Kd.V (Kd.int .i64) 3 w w.heap.size (fun k_ => P0_ k_) (.slice A0 l0.length c0) l0) (hs1 : Kd.V k45 45 w w.heap.size (fun k_ => P1_ k_) (.slice A1 l1.length c1) l1) (h : plain_Bind_1.f k l0 l1 = some (r1, r2)) (gcap_ : Nat) (hcap_ : w.cell? ⟨gcap_, 0, none⟩ = some (.slice A1 l1.length c1)) :
  Calls Try.prog 55 #[.slice A0 l0.length c0, .pointer (some ⟨gcap_, 0, none⟩)] w fun e w' => ∃ v0_ : Value, e = .returned (.tuple #[v0_, .int .i64 r2]) ∧ Kd.V k32 32 w' w.heap.size (fun k_ => ((P0_ k_ ∨ P1_ k_) ∨ w.heap.size ≤ k_)) v0_ r1 ∧ Below w.heap.size w w' := by
 have HO0 := Aside0.mk (show Kd.V (Kd.int .i64) 3 w w.heap.size (fun k_ => ((P0_ k_ ∨ P1_ k_) ∨ w.heap.size ≤ k_)) (.slice A0 l0.length c0) l0 from Kd.V_mono hs0 (fun k_ hk => .inl (.inl hk)))
 have HO1 := Aside0.mk (show Kd.V k45 45 w w.heap.size (fun k_ => ((P0_ k_ ∨ P1_ k_) ∨ w.heap.size ≤ k_)) (.slice A1 l1.length c1) l1 from Kd.V_mono hs1 (fun k_ hk => .inl (.inr hk)))
 have HB := Aside0.mk (Below.refl w.heap.size w)
 have H : ((plain_Then.f k l1 l0).bind fun t162 => (some (t162, 0))) = some (r1, r2) := h
 clear h
 obtain ⟨t162, A3, H⟩ := bnd_ H
 simp only [Option.some.injEq, Prod.mk.injEq] at H
 obtain ⟨rfl, rfl⟩ := H
 go_enter Try.func55, Try.ntmps55
 go_wp2_with (((with_reducible refine gate_callee (f := 22) rfl ?_); refine goesL_ (some 7) rfl rfl Try.func22 (by kernel_rfl) rfl #[.slice A1 l1.length c1, .slice A0 l0.length c0] rfl (by (try simp only [List.map_toArray, List.map_cons, List.map_nil]); rfl) ?_; (with_reducible refine (plain_Then.calls k (fun k_ => ((P0_ k_ ∨ P1_ k_) ∨ w.heap.size ≤ k_)) _ _ l1 (fun k_ => ((P0_ k_ ∨ P1_ k_) ∨ w.heap.size ≤ k_)) _ _ l0 t162 _ ?side1 ?side2 A3.out).mono ?_); (case side1 => exact HO1.out); (case side2 => exact HO0.out); rintro e w4 ⟨v163, rfl, ho0, hb⟩; refine ⟨_, rfl, ?_⟩; replace HO0 := Aside0.mk (Kd.V_below (by (with_reducible repeat (first | apply Kd.V_alloc | apply Kd.V_drewN | apply Kd.V_drew)); exact HO0.out) hb); replace HO1 := Aside0.mk (Kd.V_below (by (with_reducible repeat (first | apply Kd.V_alloc | apply Kd.V_drewN | apply Kd.V_drew)); exact HO1.out) hb); have HO164 := Aside0.mk (Kd.V_lower (Kd.V_mono (ok' := fun k_ => ((P0_ k_ ∨ P1_ k_) ∨ w.heap.size ≤ k_)) ho0 (fun k_ hk_ => Or.elim hk_ (fun hs_ => Or.elim hs_ (fun hs_ => hs_) (fun hs_ => hs_)) (fun hn_ => (.inr (Nat.le_trans (below_size HB.out) hn_))))) (below_size HB.out)); replace HB := Aside0.mk (below_step HB.out hb); (try clear hb); (try clear ho0)))
 go_ret2
 exact ⟨_, rfl, by (with_reducible repeat (first | apply Kd.V_alloc | apply Kd.V_drewN | apply Kd.V_drew)); exact HO164.out, HB.out⟩

end Go.Proofs.Ytkemhfhmlcljjaa.PR

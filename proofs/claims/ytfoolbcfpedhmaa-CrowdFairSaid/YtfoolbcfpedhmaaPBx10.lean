/- Functions of the translated program as Lean functions, and what their calls come to: written by this session's own program (wip/xprint.py) over the kit's print. Conditions stand in each theorem. -/
import Derived.Test.YtfoolbcfpedhmaaPBx0
import Derived.Test.YtfoolbcfpedhmaaPBx1
import Derived.Test.YtfoolbcfpedhmaaPBx5
import Derived.Test.YtfoolbcfpedhmaaPBx8
import Derived.Test.YtfoolbcfpedhmaaPBx9
namespace Go.Proofs.Ytfoolbcfpedhmaa.PB
open Go.RowKit Go.Proofs.YtfoolbcfpedhmaaW.PrintWords Go.Proofs.YtfoolbcfpedhmaaW.PrintLast Go.Proofs.YtfoolbcfpedhmaaW.PrintMore
attribute [local go_sem] max2_int min2_int max_two min_two max_three min_three max_four min_four   -- for this text's walks alone
set_option linter.unusedVariables false
set_option linter.unusedSimpArgs false

/-! ### crowd_Shuffled: function 7 -/
mutual
def crowd_Shuffled.l0 : Nat → Int → List (S38) → List Int → Int → Int → Int → Int → Option ((List (S38)) × Int)
  | 0, _, _, _, _, _, _, _ => none
  | k + 1, x1, x10, x34, x35, x36, x166000, x166001 => if x36 < x35 then (if 0 ≤ x36 then (if x36 < (x34.length : Int) then ((slices_Repeat_int_int.f (([x166001] : List Int)) x1).bind fun t182 => (if 0 ≤ (rd x34 x36) then (if (rd x34 x36) < (t182.length : Int) then (crowd_Shuffled.l1 k x1 (t182.set ((rd x34 x36) : Int).toNat x166000) ([] : List (S38)) x34 x35 x36 x10 (x10.length : Int) 0 x166000 x166001) else (none)) else (none))) else (none)) else (none)) else ((dist_Make.f k x10).bind fun bt174 => (some (bt174.1, bt174.2)))
def crowd_Shuffled.l1 : Nat → Int → List Int → List (S38) → List Int → Int → Int → List (S38) → Int → Int → Int → Int → Option ((List (S38)) × Int)
  | 0, _, _, _, _, _, _, _, _, _, _, _ => none
  | k + 1, x1, x13, x14, x34, x35, x36, x50, x51, x52, x166000, x166001 => if x52 < x51 then (if 0 ≤ x52 then (if x52 < (x50.length : Int) then (crowd_Shuffled.l2 k x1 x13 x14 x34 x35 x36 x50 x51 x52 (x13.length : Int) 0 x166000 x166001 ((rd_T38 x50 x52).f0) ((rd_T38 x50 x52).f1)) else (none)) else (none)) else ((crowd_gathered.f k x14).bind fun t186 => (crowd_Shuffled.l0 k x1 t186 x34 x35 (wrap64 (x36 + 1)) x166000 x166001))
def crowd_Shuffled.l2 : Nat → Int → List Int → List (S38) → List Int → Int → Int → List (S38) → Int → Int → Int → Int → Int → Int → List Int → Int → Option ((List (S38)) × Int)
  | 0, _, _, _, _, _, _, _, _, _, _, _, _, _, _, _ => none
  | k + 1, x1, x13, x14, x34, x35, x36, x50, x51, x52, x57, x58, x166000, x166001, x191000, x191001 => if x58 < x57 then (if 0 ≤ x58 then (if x58 < (x13.length : Int) then ((slices_Clone_int_int.f x191000).bind fun t192 => (if x58 < (t192.length : Int) then (if x14.length < 4398046511104 then (crowd_Shuffled.l2 k x1 x13 (x14 ++ [(⟨(t192.set (x58 : Int).toNat (wrap64 ((rd t192 x58) + 1))), wrap64 (x191001 * (rd x13 x58))⟩ : S38)]) x34 x35 x36 x50 x51 x52 x57 (wrap64 (x58 + 1)) x166000 x166001 x191000 x191001) else (none)) else (none))) else (none)) else (none)) else (crowd_Shuffled.l1 k x1 x13 x14 x34 x35 x36 x50 x51 (wrap64 (x52 + 1)) x166000 x166001)
end
def crowd_Shuffled.f (k : Nat) (a0_0 : Int) (a0_1 : Int) (a1 : Int) (l2 : List Int) : Option ((List (S38)) × Int) := (crowd_people.f k a0_0 a0_1 a1 l2).bind fun bt166 => (if bt166.2 = 0 then (if 0 ≤ a1 then (if (a1 : Int).toNat ≤ 35184372088832 then (crowd_Shuffled.l0 k a1 (([(⟨(List.replicate (a1 : Int).toNat 0), 1⟩ : S38)] : List (S38))) l2 (l2.length : Int) 0 a0_0 a0_1) else (none)) else (none)) else (some (([] : List (S38)), bt166.2)))
theorem crowd_Shuffled.mono_l : ∀ k, (∀ y0 y1 y2 y3 y4 y5 y6, LeO (crowd_Shuffled.l0 k y0 y1 y2 y3 y4 y5 y6) (crowd_Shuffled.l0 (k + 1) y0 y1 y2 y3 y4 y5 y6)) ∧ (∀ y0 y1 y2 y3 y4 y5 y6 y7 y8 y9 y10, LeO (crowd_Shuffled.l1 k y0 y1 y2 y3 y4 y5 y6 y7 y8 y9 y10) (crowd_Shuffled.l1 (k + 1) y0 y1 y2 y3 y4 y5 y6 y7 y8 y9 y10)) ∧ (∀ y0 y1 y2 y3 y4 y5 y6 y7 y8 y9 y10 y11 y12 y13 y14, LeO (crowd_Shuffled.l2 k y0 y1 y2 y3 y4 y5 y6 y7 y8 y9 y10 y11 y12 y13 y14) (crowd_Shuffled.l2 (k + 1) y0 y1 y2 y3 y4 y5 y6 y7 y8 y9 y10 y11 y12 y13 y14))
  | 0 => ⟨fun _ _ _ _ _ _ _ r h => by simp [crowd_Shuffled.l0] at h, fun _ _ _ _ _ _ _ _ _ _ _ r h => by simp [crowd_Shuffled.l1] at h, fun _ _ _ _ _ _ _ _ _ _ _ _ _ _ _ r h => by simp [crowd_Shuffled.l2] at h⟩
  | k + 1 => by
    obtain ⟨ih0, ih1, ih2⟩ := crowd_Shuffled.mono_l k
    refine ⟨?_, ?_, ?_⟩
    · intro y0 y1 y2 y3 y4 y5 y6
      unfold crowd_Shuffled.l0
      repeat' first
      | (with_reducible exact ih0 _ _ _ _ _ _ _)
      | (with_reducible exact ih1 _ _ _ _ _ _ _ _ _ _ _)
      | (with_reducible exact ih2 _ _ _ _ _ _ _ _ _ _ _ _ _ _ _)
      | (with_reducible exact crowd_gathered.mono _ _)
      | (with_reducible exact crowd_people.mono _ _ _ _ _)
      | (with_reducible exact dist_Make.mono _ _)
      | (with_reducible exact LeO.refl _)
      | (with_reducible exact LeO.none _)
      | (with_reducible refine LeO.ite ?_ ?_)
      | (with_reducible refine LeO.bind ?_ (fun _ => ?_))
      | exact ih0 _ _ _ _ _ _ _
      | exact ih1 _ _ _ _ _ _ _ _ _ _ _
      | exact ih2 _ _ _ _ _ _ _ _ _ _ _ _ _ _ _
      | exact crowd_gathered.mono _ _
      | exact crowd_people.mono _ _ _ _ _
      | exact dist_Make.mono _ _
      | exact LeO.none _
      | refine LeO.ite ?_ ?_
      | refine LeO.bind ?_ (fun _ => ?_)
    · intro y0 y1 y2 y3 y4 y5 y6 y7 y8 y9 y10
      unfold crowd_Shuffled.l1
      repeat' first
      | (with_reducible exact ih0 _ _ _ _ _ _ _)
      | (with_reducible exact ih1 _ _ _ _ _ _ _ _ _ _ _)
      | (with_reducible exact ih2 _ _ _ _ _ _ _ _ _ _ _ _ _ _ _)
      | (with_reducible exact crowd_gathered.mono _ _)
      | (with_reducible exact crowd_people.mono _ _ _ _ _)
      | (with_reducible exact dist_Make.mono _ _)
      | (with_reducible exact LeO.refl _)
      | (with_reducible exact LeO.none _)
      | (with_reducible refine LeO.ite ?_ ?_)
      | (with_reducible refine LeO.bind ?_ (fun _ => ?_))
      | exact ih0 _ _ _ _ _ _ _
      | exact ih1 _ _ _ _ _ _ _ _ _ _ _
      | exact ih2 _ _ _ _ _ _ _ _ _ _ _ _ _ _ _
      | exact crowd_gathered.mono _ _
      | exact crowd_people.mono _ _ _ _ _
      | exact dist_Make.mono _ _
      | exact LeO.none _
      | refine LeO.ite ?_ ?_
      | refine LeO.bind ?_ (fun _ => ?_)
    · intro y0 y1 y2 y3 y4 y5 y6 y7 y8 y9 y10 y11 y12 y13 y14
      unfold crowd_Shuffled.l2
      repeat' first
      | (with_reducible exact ih0 _ _ _ _ _ _ _)
      | (with_reducible exact ih1 _ _ _ _ _ _ _ _ _ _ _)
      | (with_reducible exact ih2 _ _ _ _ _ _ _ _ _ _ _ _ _ _ _)
      | (with_reducible exact crowd_gathered.mono _ _)
      | (with_reducible exact crowd_people.mono _ _ _ _ _)
      | (with_reducible exact dist_Make.mono _ _)
      | (with_reducible exact LeO.refl _)
      | (with_reducible exact LeO.none _)
      | (with_reducible refine LeO.ite ?_ ?_)
      | (with_reducible refine LeO.bind ?_ (fun _ => ?_))
      | exact ih0 _ _ _ _ _ _ _
      | exact ih1 _ _ _ _ _ _ _ _ _ _ _
      | exact ih2 _ _ _ _ _ _ _ _ _ _ _ _ _ _ _
      | exact crowd_gathered.mono _ _
      | exact crowd_people.mono _ _ _ _ _
      | exact dist_Make.mono _ _
      | exact LeO.none _
      | refine LeO.ite ?_ ?_
      | refine LeO.bind ?_ (fun _ => ?_)
theorem crowd_Shuffled.mono : ∀ a0 a1 a2 a3 k, LeO (crowd_Shuffled.f k a0 a1 a2 a3) (crowd_Shuffled.f (k + 1) a0 a1 a2 a3) := by
  intro a0 a1 a2 a3 k
  obtain ⟨ih0, ih1, ih2⟩ := crowd_Shuffled.mono_l k
  unfold crowd_Shuffled.f
  repeat' first
      | (with_reducible exact ih0 _ _ _ _ _ _ _)
      | (with_reducible exact ih1 _ _ _ _ _ _ _ _ _ _ _)
      | (with_reducible exact ih2 _ _ _ _ _ _ _ _ _ _ _ _ _ _ _)
      | (with_reducible exact crowd_gathered.mono _ _)
      | (with_reducible exact crowd_people.mono _ _ _ _ _)
      | (with_reducible exact dist_Make.mono _ _)
      | (with_reducible exact LeO.refl _)
      | (with_reducible exact LeO.none _)
      | (with_reducible refine LeO.ite ?_ ?_)
      | (with_reducible refine LeO.bind ?_ (fun _ => ?_))
      | exact ih0 _ _ _ _ _ _ _
      | exact ih1 _ _ _ _ _ _ _ _ _ _ _
      | exact ih2 _ _ _ _ _ _ _ _ _ _ _ _ _ _ _
      | exact crowd_gathered.mono _ _
      | exact crowd_people.mono _ _ _ _ _
      | exact dist_Make.mono _ _
      | exact LeO.none _
      | refine LeO.ite ?_ ?_
      | refine LeO.bind ?_ (fun _ => ?_)
set_option maxHeartbeats 8000000 in
set_option maxRecDepth 100000 in
theorem crowd_Shuffled.calls (k : Nat) (a0_0 : Int) (a0_1 : Int) (a1 : Int) (A2 : Option Addr) (c2 : Nat) (l2 : List Int) (r1 : List (S38)) (r2 : Int) (w : World) (hr2 : Kd.C (Kd.int .i64) w A2 l2.length l2) (hc2 : l2.length ≤ c2) (h : crowd_Shuffled.f k a0_0 a0_1 a1 l2 = some (r1, r2)) :
    Calls Try.prog 7 #[.agg #[.int .i64 a0_0, .int .i64 a0_1], .int .i64 a1, .slice A2 l2.length c2] w fun e w' => ∃ v0_ : Value, e = .returned (.tuple #[v0_, .int .i64 r2]) ∧ Kd.N k38 38 w' w.heap.size (fun k_ => (w.heap.size ≤ k_)) v0_ r1 ∧ Below w.heap.size w w' := by
  have hu23 := Try.underlying23
  have hu38 := Try.underlying38
  have HR2 := Aside0.mk hr2
  have HC2 := Aside0.mk hc2
  clear hr2 hc2
  have HB := Aside0.mk (Below.refl w.heap.size w)
  have H : ((crowd_people.f k a0_0 a0_1 a1 l2).bind fun bt166 => (if bt166.2 = 0 then (if 0 ≤ a1 then (if (a1 : Int).toNat ≤ 35184372088832 then (crowd_Shuffled.l0 k a1 (([(⟨(List.replicate (a1 : Int).toNat 0), 1⟩ : S38)] : List (S38))) l2 (l2.length : Int) 0 a0_0 a0_1) else (none)) else (none)) else (some (([] : List (S38)), bt166.2)))) = some (r1, r2) := h
  clear h
  replace H := Option.bind_eq_some_iff.mp H
  obtain ⟨⟨t166, t167⟩, A40, H⟩ := H
  replace H : (if t167 = 0 then (if 0 ≤ a1 then (if (a1 : Int).toNat ≤ 35184372088832 then (crowd_Shuffled.l0 k a1 (([(⟨(List.replicate (a1 : Int).toNat 0), 1⟩ : S38)] : List (S38))) l2 (l2.length : Int) 0 a0_0 a0_1) else (none)) else (none)) else (some (([] : List (S38)), t167))) = some (r1, r2) := H
  have A4 := Aside0.mk A40
  clear A40
  by_cases c5 : t167 = 0
  · rw [if_pos c5] at H
    have c5b0 : (t167 == 0) = true := beq_iff_eq.mpr c5
    have c5b1 : (t167 != 0) = false := bne_eq_false_iff_eq.mpr c5
    clear c5
    by_cases c6 : 0 ≤ a1
    · rw [if_pos c6] at H
      have c6b0 := eq_true c6
      have c6b1 : decide (0 ≤ a1) = true := decide_eq_true c6
      clear c6
      by_cases c7 : (a1 : Int).toNat ≤ 35184372088832
      · rw [if_pos c7] at H
        have c7b0 := eq_true c7
        have c7b1 : decide ((a1 : Int).toNat ≤ 35184372088832) = true := decide_eq_true c7
        clear c7
        obtain ⟨y168, hy168⟩ : ∃ y_ : List Int, y_ = (List.replicate (a1 : Int).toNat 0) := ⟨_, rfl⟩
        replace H : (crowd_Shuffled.l0 k a1 (([(⟨y168, 1⟩ : S38)] : List (S38))) l2 (l2.length : Int) 0 a0_0 a0_1) = some (r1, r2) := by first | (rw [hy168]; with_reducible exact H) | (have H2_ := (Option.bind_some _ _).symm.trans H; rw [hy168]; with_reducible exact H2_) | (have H2_ := (Option.bind_some _ _).symm.trans H; with_reducible exact H2_) | with_reducible exact H | (rw [hy168]; exact H) | exact H
        have Ny168 := Aside0.mk hy168
        clear hy168
        obtain ⟨y171, hy171⟩ : ∃ y_ : List (S38), y_ = (([(⟨y168, 1⟩ : S38)] : List (S38))) := ⟨_, rfl⟩
        replace H : (crowd_Shuffled.l0 k a1 y171 l2 (l2.length : Int) 0 a0_0 a0_1) = some (r1, r2) := by first | (rw [hy171]; with_reducible exact H) | (have H2_ := (Option.bind_some _ _).symm.trans H; rw [hy171]; with_reducible exact H2_) | (have H2_ := (Option.bind_some _ _).symm.trans H; with_reducible exact H2_) | with_reducible exact H | (rw [hy171]; exact H) | exact H
        have Ny171 := Aside0.mk hy171
        clear hy171
        have H' := Aside0.mk H
        clear H
        go_enter Try.func7, Try.ntmps7
        go_wp2_with (first | ((with_reducible refine gate_dst (N := 3) rfl ?_); refine box_event ?hg (N := 3) ?hd (cs := #[.int .i64 a0_0, .int .i64 a0_1]) (t := 23) ?hr ?_; (case hd => rfl); (case hg => rfl); (case hr => first | (go_simp; done) | (go_simp; rfl)); intro gb165 hg w8 hbox hb; have n0_ := Aside0.mk (below_step (by repeat (first | (with_reducible first | exact HB.out | apply below_alloc | apply pw_below_drewN | apply below_drew1) | exact HB.out)) hb); have n1_ := Aside0.mk (hbox); have n2_ := Aside0.mk ((by rw [hg]; exact (below_size (by repeat (first | (with_reducible first | exact HB.out | apply below_alloc | apply pw_below_drewN | apply below_drew1) | exact HB.out))) : w.heap.size ≤ gb165)); have n3_ := Aside0.mk ((by rw [hg]; exact (below_size (by repeat (first | (with_reducible first | exact HB.out | apply below_alloc | apply pw_below_drewN | apply below_drew1) | exact HB.out))) : w.heap.size ≤ gb165)); clear HB; have HB := n0_; have BK165 := n1_; have GW165 := n2_; have GE165 := n3_; clear n0_ n1_ n2_ n3_; clear hb hbox hg; have hcz9_0 : w8.cell? ⟨gb165, 0, none⟩ = some (.int .i64 a0_0) := (blk_cell BK165.out 0).trans rfl; have hcz9_1 : w8.cell? ⟨gb165, 1, none⟩ = some (.int .i64 a0_1) := (blk_cell BK165.out 1).trans rfl; have hfz9_0 := blk_frozen BK165.out 0; have hfz9_1 := blk_frozen BK165.out 1) | ((with_reducible refine gate_callee (f := 17) rfl ?_); refine goesL_ (some 24) rfl rfl Try.func17 (by kernel_rfl) rfl #[.agg #[.int .i64 a0_0, .int .i64 a0_1], .int .i64 a1, .slice A2 l2.length c2] rfl (by (try simp only [List.map_toArray, List.map_cons, List.map_nil]); first | done | rfl | (simp only [List.length_drop, List.length_take]; rfl)) ?_; (with_reducible refine (crowd_people.calls k a0_0 a0_1 a1 _ _ l2 t166 t167 _ ?side1 ?side2 A4.out).mono ?_); (case side1 => repeat (first | exact (Kd.C_below HR2.out HB.out) | (with_reducible refine Kd.C_alloc ?_ _) | (with_reducible refine Kd.C_drewN ?_ _) | (with_reducible refine Kd.C_drew ?_))); (case side2 => exact HC2.out); rintro e w10 ⟨rfl, hb⟩; refine ⟨_, rfl, ?_⟩; have n0_ := Aside0.mk (blk_below (g := gb165) (o := .cells #[.int .i64 a0_0, .int .i64 a0_1] 23 (0, 0)) (by (with_reducible repeat (first | refine blk_drewN ?_ _ | refine blk_drew ?_ | refine blk_alloc ?_ _)); exact BK165.out) hb); have n1_ := Aside0.mk (below_step (by repeat (first | (with_reducible first | exact HB.out | apply below_alloc | apply pw_below_drewN | apply below_drew1 | refine below_set ?_ GE165.out) | exact HB.out)) hb); clear BK165; clear HB; have BK165 := n0_; have HB := n1_; clear n0_ n1_; (try clear hb); (try clear hb2); (try clear hk); (try clear hi)) | ((with_reducible refine gate_dst (N := 31) rfl ?_); refine Kd.R_make (Kd.int .i64) _ 3 rfl (N := 31) rfl 24 _ _ rfl a1 rfl rfl Try.underlying24 (.int .i64 0) 8 info3 rfl (by decide) (by omega) 0 (ok := fun _ => True) (okp := fun _ => True) rfl (fun _ hk => hk) trivial (of_decide_eq_true (by first | (with_reducible assumption) | assumption)) (Nat.le_trans (Nat.mul_le_mul_right _ (of_decide_eq_true (by first | (with_reducible assumption) | assumption) : a1.toNat ≤ 35184372088832)) (by omega)) (Below.refl _ _) (Nat.le_refl _) ?_; intro v169 w11 ho12 hb hg_ hnew_; clear hg_ hnew_; (first | rw [← Ny168.out] at ho12 | (simp only [Int.reduceToNat] at ho12; rw [← Ny168.out] at ho12)); have n0_ := Aside0.mk (Kd.R_lower (Kd.R_newM (M := fun k_ => (w.heap.size ≤ k_)) ho12 (below_size (by repeat (first | (with_reducible first | exact HB.out | apply below_alloc | apply pw_below_drewN | apply below_drew1 | refine below_set ?_ GE165.out) | exact HB.out))) (fun k_ h_ => h_)) (below_size (by repeat (first | (with_reducible first | exact HB.out | apply below_alloc | apply pw_below_drewN | apply below_drew1 | refine below_set ?_ GE165.out) | exact HB.out)))); have n1_ := Aside0.mk (blk_below (g := gb165) (o := .cells #[.int .i64 a0_0, .int .i64 a0_1] 23 (0, 0)) (by (with_reducible repeat (first | refine blk_drewN ?_ _ | refine blk_drew ?_ | refine blk_alloc ?_ _)); exact BK165.out) hb); have n2_ := Aside0.mk (below_step (by repeat (first | (with_reducible first | exact HB.out | apply below_alloc | apply pw_below_drewN | apply below_drew1 | refine below_set ?_ GE165.out) | exact HB.out)) hb); clear BK165; clear HB; have HO170 := n0_; have BK165 := n1_; have HB := n2_; clear n0_ n1_ n2_; clear hb ho12; obtain ⟨Ao13, co13, eo13⟩ := Kd.R_slice HO170.out; subst eo13) | ((with_reducible refine gate_dst (N := 33) rfl ?_); refine Kd.N_lit k38 _ 38 ?hg (N' := 33) ?hd (xs := ([(⟨y168, 1⟩ : S38)] : List (S38))) (inner := [.slice Ao13 y168.length co13, .int .i64 1]) (ok := (fun k_ => (w.heap.size ≤ k_) ∧ k_ ≠ gb165)) (okp := (fun k_ => (w.heap.size ≤ k_) ∧ k_ ≠ gb165)) ?hr ?hp (fun _ hk => hk) ((show ∀ k_, w11.heap.size ≤ k_ → (fun k_ => (w.heap.size ≤ k_) ∧ k_ ≠ gb165) k_ from fun k_ hk => ⟨(Nat.le_trans (below_size (by repeat (first | (with_reducible first | exact HB.out | apply below_alloc | apply pw_below_drewN | apply below_drew1 | refine below_set ?_ GE165.out) | exact HB.out))) hk), Kd.freshB (g := gb165) (o := .cells #[.int .i64 a0_0, .int .i64 a0_1] 23 (0, 0)) (by (with_reducible repeat (first | refine blk_drewN ?_ _ | refine blk_drew ?_ | refine blk_alloc ?_ _)); exact BK165.out) k_ hk⟩) _ (Nat.le_refl _)) (Below.refl _ _) (Nat.le_refl _) (by simp) ?_; (case hd => rfl); (case hg => rfl); (case hr => first | (go_simp; done) | (go_simp; rfl)); (case hp => exact (Reps.c2 (show Kd.FK k38 _ _ (⟨y168, 1⟩ : S38) [.slice Ao13 y168.length co13, .int .i64 1] from (k38_mkF _ _ (⟨y168, 1⟩ : S38) (Kd.R_reads' (Kd.R_mono (ok' := (fun k_ => (w.heap.size ≤ k_) ∧ k_ ≠ gb165)) (Kd.R_types (HO170.out) BK165.out (by decide)) (fun k_ hk => ⟨hk.1.1, hk.2⟩))).2.1 (Kd.R_F (Kd.R_mono (ok' := (fun k_ => (w.heap.size ≤ k_) ∧ k_ ≠ gb165)) (Kd.R_types (HO170.out) BK165.out (by decide)) (fun k_ hk => ⟨hk.1.1, hk.2⟩))))) (Reps.none _ _))); intro v172 w14 ho15 hb hg_ hnew_; clear hg_ hnew_; (first | rw [← Ny171.out] at ho15 | (simp only [Int.reduceToNat] at ho15; rw [← Ny171.out] at ho15)); have n0_ := Aside0.mk (Kd.N_lower ho15 (below_size (by repeat (first | (with_reducible first | exact HB.out | apply below_alloc | apply pw_below_drewN | apply below_drew1 | refine below_set ?_ GE165.out) | exact HB.out)))); have n1_ := Aside0.mk (blk_below (g := gb165) (o := .cells #[.int .i64 a0_0, .int .i64 a0_1] 23 (0, 0)) (by (with_reducible repeat (first | refine blk_drewN ?_ _ | refine blk_drew ?_ | refine blk_alloc ?_ _)); exact BK165.out) hb); have n2_ := Aside0.mk (below_step (by repeat (first | (with_reducible first | exact HB.out | apply below_alloc | apply pw_below_drewN | apply below_drew1 | refine below_set ?_ GE165.out) | exact HB.out)) hb); clear BK165; clear HB; clear HO170; have HO173 := n0_; have BK165 := n1_; have HB := n2_; clear n0_ n1_ n2_; clear hb ho15))
        go_loopg [10, 36] k (fun kq v10 v36 w' => ∃ (x10_1 : List (S38)) (x36_1 : Int), v36 = .int .i64 x36_1 ∧ Aside0 (crowd_Shuffled.l0 kq a1 x10_1 l2 (l2.length : Int) x36_1 a0_0 a0_1 = some (r1, r2)) ∧ Aside0 (kq ≤ k) ∧ Aside0 (Kd.N k38 38 w' w.heap.size (fun k_ => (w.heap.size ≤ k_) ∧ k_ ≠ gb165) v10 x10_1) ∧ Aside0 (w'.heap[gb165]? = some (.cells #[.int .i64 a0_0, .int .i64 a0_1] 23 (0, 0))) ∧ Aside0 (Below w.heap.size w w'))
        case atStart => exact ⟨(y171), (0), (by first | rfl | (simp; done) | (simp [*]; done)), H', ⟨Nat.le_refl _⟩, ⟨by (with_reducible repeat (first | apply Kd.N_alloc | apply Kd.N_drewN | apply Kd.N_drew)); exact HO173.out⟩, ⟨by (with_reducible repeat (first | refine blk_drewN ?_ _ | refine blk_drew ?_ | refine blk_alloc ?_ _)); exact BK165.out⟩, ⟨by repeat (first | (with_reducible first | exact HB.out | apply below_alloc | apply pw_below_drewN | apply below_drew1 | refine below_set ?_ GE165.out) | exact HB.out)⟩⟩
        case round =>
          clear H'
          try clear c1
          try clear c2
          try clear p2
          try clear c5
          try clear c5b0
          try clear c5b1
          try clear c6
          try clear c6b0
          try clear c6b1
          try clear c7
          try clear c7b0
          try clear c7b1
          try clear hcz9_0
          try clear hcz9_1
          try clear hfz9_0
          try clear hfz9_1
          obtain ⟨x10_1, x36_1, rfl, HA, HK1, HO_10, BK165, HB⟩ := hrel
          cases gk with
          | zero => exact absurd HA.out (by simp [crowd_Shuffled.l0])
          | succ k1 =>
            have H := HA.out
            clear HA
            simp only [crowd_Shuffled.l0] at H
            by_cases c16 : x36_1 < (l2.length : Int)
            · rw [if_pos c16] at H
              have c16b0 : decide (x36_1 < (l2.length : Int)) = true := decide_eq_true c16
              clear c16
              by_cases c17 : 0 ≤ x36_1
              · rw [if_pos c17] at H
                have c17b0 : decide (0 ≤ x36_1) = true := decide_eq_true c17
                clear c17
                by_cases c18 : x36_1 < (l2.length : Int)
                · rw [if_pos c18] at H
                  have c18b0 : decide (x36_1 < (l2.length : Int)) = true := decide_eq_true c18
                  clear c18
                  obtain ⟨y179, hy179⟩ : ∃ y_ : List Int, y_ = (([a0_1] : List Int)) := ⟨_, rfl⟩
                  replace H : ((slices_Repeat_int_int.f y179 a1).bind fun t182 => (if 0 ≤ (rd l2 x36_1) then (if (rd l2 x36_1) < (t182.length : Int) then (crowd_Shuffled.l1 k1 a1 (t182.set ((rd l2 x36_1) : Int).toNat a0_0) ([] : List (S38)) l2 (l2.length : Int) x36_1 x10_1 (x10_1.length : Int) 0 a0_0 a0_1) else (none)) else (none))) = some (r1, r2) := by first | (rw [hy179]; with_reducible exact H) | (have H2_ := (Option.bind_some _ _).symm.trans H; rw [hy179]; with_reducible exact H2_) | (have H2_ := (Option.bind_some _ _).symm.trans H; with_reducible exact H2_) | with_reducible exact H | (rw [hy179]; exact H) | exact H
                  have Ny179 := Aside0.mk hy179
                  clear hy179
                  replace H := Option.bind_eq_some_iff.mp H
                  obtain ⟨t182, A190, H⟩ := H
                  replace H : (if 0 ≤ (rd l2 x36_1) then (if (rd l2 x36_1) < (t182.length : Int) then (crowd_Shuffled.l1 k1 a1 (t182.set ((rd l2 x36_1) : Int).toNat a0_0) ([] : List (S38)) l2 (l2.length : Int) x36_1 x10_1 (x10_1.length : Int) 0 a0_0 a0_1) else (none)) else (none)) = some (r1, r2) := H
                  have A19 := Aside0.mk A190
                  clear A190
                  by_cases c20 : 0 ≤ (rd l2 x36_1)
                  · rw [if_pos c20] at H
                    have c20b0 : decide (0 ≤ (rd l2 x36_1)) = true := decide_eq_true c20
                    clear c20
                    by_cases c21 : (rd l2 x36_1) < (t182.length : Int)
                    · rw [if_pos c21] at H
                      have c21b0 : decide ((rd l2 x36_1) < (t182.length : Int)) = true := decide_eq_true c21
                      clear c21
                      obtain ⟨y185, hy185⟩ : ∃ y_ : List Int, y_ = (t182.set ((rd l2 x36_1) : Int).toNat a0_0) := ⟨_, rfl⟩
                      replace H : (crowd_Shuffled.l1 k1 a1 y185 ([] : List (S38)) l2 (l2.length : Int) x36_1 x10_1 (x10_1.length : Int) 0 a0_0 a0_1) = some (r1, r2) := by first | (rw [hy185]; with_reducible exact H) | (have H2_ := (Option.bind_some _ _).symm.trans H; rw [hy185]; with_reducible exact H2_) | (have H2_ := (Option.bind_some _ _).symm.trans H; with_reducible exact H2_) | with_reducible exact H | (rw [hy185]; exact H) | exact H
                      have Ny185 := Aside0.mk hy185
                      clear hy185
                      have H' := Aside0.mk H
                      clear H
                      have p178 : 0 ≤ (x36_1 : Int) := of_decide_eq_true (by first | (with_reducible assumption) | assumption)
                      have q178 : x36_1 < (l2.length : Int) := of_decide_eq_true (by first | (with_reducible assumption) | assumption)
                      obtain ⟨ad178, e178, hx178_0⟩ := Kd.at_int HR2.out x36_1 p178 q178
                      cases e178
                      replace hx178_0 := (HB.out.cell (World.block_lt_of_cell? w _ hx178_0)).trans hx178_0
                      replace p178 := eq_true p178
                      replace q178 := eq_true q178
                      have hcz23_0 : wr.cell? ⟨gb165, 0, none⟩ = some (.int .i64 a0_0) := (blk_cell BK165.out 0).trans rfl
                      have hcz23_1 : wr.cell? ⟨gb165, 1, none⟩ = some (.int .i64 a0_1) := (blk_cell BK165.out 1).trans rfl
                      have hfz23_0 := blk_frozen BK165.out 0
                      have hfz23_1 := blk_frozen BK165.out 1
                      go_wp2_with (first | ((with_reducible refine gate_dst (N := 42) rfl ?_); refine Kd.R_lit (Kd.int .i64) _ 3 ?hg (N := 42) ?hd (xs := ([a0_1] : List Int)) (inner := [.int .i64 a0_1]) (ok := fun _ => True) (okp := fun _ => True) ?hr ?hp (fun _ hk => hk) trivial (Below.refl _ _) (Nat.le_refl _) (by simp) ?_; (case hd => rfl); (case hg => rfl); (case hr => first | (go_simp; done) | (go_simp; rfl)); (case hp => exact (Reps.one (show Kd.M (Kd.int .i64) _ _ _ a0_1 [.int .i64 a0_1] from rfl) (Reps.none _ _))); intro v180 w24 ho25 hb hg_ hnew_; clear hg_ hnew_; (first | rw [← Ny179.out] at ho25 | (simp only [Int.reduceToNat] at ho25; rw [← Ny179.out] at ho25)); have n0_ := Aside0.mk (Kd.N_elder' (by (with_reducible repeat (first | apply Kd.N_alloc | apply Kd.N_drewN | apply Kd.N_drew)); exact HO_10.out) (Kd.R_base ho25) hb); have n1_ := Aside0.mk (Kd.R_lower (Kd.R_newM (M := fun k_ => (w.heap.size ≤ k_)) ho25 (below_size (by repeat (first | (with_reducible first | exact HB.out | apply below_alloc | apply pw_below_drewN | apply below_drew1 | refine below_set ?_ GE165.out) | exact HB.out))) (fun k_ h_ => h_)) (below_size (by repeat (first | (with_reducible first | exact HB.out | apply below_alloc | apply pw_below_drewN | apply below_drew1 | refine below_set ?_ GE165.out) | exact HB.out)))); have n2_ := Aside0.mk (blk_below (g := gb165) (o := .cells #[.int .i64 a0_0, .int .i64 a0_1] 23 (0, 0)) (by (with_reducible repeat (first | refine blk_drewN ?_ _ | refine blk_drew ?_ | refine blk_alloc ?_ _)); exact BK165.out) hb); have n3_ := Aside0.mk (below_step (by repeat (first | (with_reducible first | exact HB.out | apply below_alloc | apply pw_below_drewN | apply below_drew1 | refine below_set ?_ GE165.out) | exact HB.out)) hb); clear HO_10; clear BK165; clear HB; have HO_10 := n0_; have HO181 := n1_; have BK165 := n2_; have HB := n3_; clear n0_ n1_ n2_ n3_; clear hb ho25; obtain ⟨Ao26, co26, eo26⟩ := Kd.R_slice HO181.out; subst eo26) | ((with_reducible refine gate_callee (f := 18) rfl ?_); refine goesL_ (some 44) rfl rfl Try.func18 (by kernel_rfl) rfl #[.slice Ao26 y179.length co26, .int .i64 a1] rfl (by (try simp only [List.map_toArray, List.map_cons, List.map_nil]); first | done | rfl | (simp only [List.length_drop, List.length_take]; rfl)) ?_; (with_reducible refine (slices_Repeat_int_int.calls _ _ y179 a1 t182 _ ?side1 ?side2 A19.out).mono ?_); (case side1 => repeat (first | exact (Kd.R_reads' HO181.out).2.2 | (with_reducible refine Kd.C_alloc ?_ _) | (with_reducible refine Kd.C_drewN ?_ _) | (with_reducible refine Kd.C_drew ?_))); (case side2 => exact (Kd.R_reads' HO181.out).2.1); rintro e w27 ⟨v183, rfl, ho0, hb⟩; refine ⟨_, rfl, ?_⟩; have n0_ := Aside0.mk (Kd.N_elder' (by (with_reducible repeat (first | apply Kd.N_alloc | apply Kd.N_drewN | apply Kd.N_drew)); exact HO_10.out) (Kd.R_base ho0) hb); have n1_ := Aside0.mk (Kd.R_elder' (by (with_reducible repeat (first | apply Kd.R_alloc | apply Kd.R_drewN | apply Kd.R_drew)); exact HO181.out) (Kd.R_base ho0) hb); have n2_ := Aside0.mk (Kd.R_lower (Kd.R_new' (Kd.R_newM (M := fun k_ => (w.heap.size ≤ k_)) ho0 (below_size (by repeat (first | (with_reducible first | exact HB.out | apply below_alloc | apply pw_below_drewN | apply below_drew1 | refine below_set ?_ GE165.out) | exact HB.out))) (fun k_ h_ => h_)) (Kd.R_lt (by (with_reducible repeat (first | apply Kd.R_alloc | apply Kd.R_drewN | apply Kd.R_drew)); exact HO181.out))) (below_size (by repeat (first | (with_reducible first | exact HB.out | apply below_alloc | apply pw_below_drewN | apply below_drew1 | refine below_set ?_ GE165.out) | exact HB.out)))); have n3_ := Aside0.mk (blk_below (g := gb165) (o := .cells #[.int .i64 a0_0, .int .i64 a0_1] 23 (0, 0)) (by (with_reducible repeat (first | refine blk_drewN ?_ _ | refine blk_drew ?_ | refine blk_alloc ?_ _)); exact BK165.out) hb); have n4_ := Aside0.mk (below_step (by repeat (first | (with_reducible first | exact HB.out | apply below_alloc | apply pw_below_drewN | apply below_drew1 | refine below_set ?_ GE165.out) | exact HB.out)) hb); clear HO_10; clear HO181; clear BK165; clear HB; have HO_10 := n0_; have HO181 := n1_; have HO184 := n2_; have BK165 := n3_; have HB := n4_; clear n0_ n1_ n2_ n3_ n4_; (try clear hb); (try clear hb2); (try clear hk); (try clear hi); (try clear ho0); have hcz28_0 : w27.cell? ⟨gb165, 0, none⟩ = some (.int .i64 a0_0) := (blk_cell BK165.out 0).trans rfl; have hcz28_1 : w27.cell? ⟨gb165, 1, none⟩ = some (.int .i64 a0_1) := (blk_cell BK165.out 1).trans rfl; have hfz28_0 := blk_frozen BK165.out 0; have hfz28_1 := blk_frozen BK165.out 1; have p22 : 0 ≤ ((rd l2 x36_1) : Int) := of_decide_eq_true (by first | (with_reducible assumption) | assumption); have q22 : ((rd l2 x36_1) : Int) < ((t182.length : Int) : Int) := of_decide_eq_true (by first | (with_reducible assumption) | assumption); obtain ⟨go22, co22, eo22, gb22, gl22, cl22, HG22⟩ := Kd.R_form HO184.out (by omega); (first | cases eo22 | (injection eo22 with ea_ en_ ec_; (first | subst ea_ | (injection ea_ with ea_; subst ea_)); subst ec_; clear en_)); have GB22 := Aside0.mk gb22; have GG22 := Aside0.mk HG22; clear gb22 gl22 HG22; obtain ⟨hx22_0, hf22_0⟩ := Kd.R_celln 0 HO184.out ((rd l2 x36_1) : Int) p22 q22; replace p22 := eq_true p22; replace q22 := eq_true q22; have n_ := Aside0.mk (Kd.R_mono (ok' := (fun k_ => (w.heap.size ≤ k_) ∧ some k_ ≠ (.slice Ao26 y179.length co26 : Value).ownBlock)) HO184.out (fun k_ hk => ⟨hk.1.1, hk.2⟩)); clear HO184; have HO184 := n_; clear n_; obtain ⟨hy29_, hz29_⟩ := Kd.R_celln 0 HO184.out ((rd l2 x36_1) : Int) (of_decide_eq_true (by first | (with_reducible assumption) | assumption)) (of_decide_eq_true (by first | (with_reducible assumption) | assumption)); have HP29 := Kd.R_putg HO184.out ((rd l2 x36_1) : Int) a0_0) | ((with_reducible refine gate_store (t := 3) (p := 49) rfl ?_); refine store_event (t := 3) (p := 49) (v := ?vo_w30) (w1 := (w27.setCell ⟨go22, ((rd l2 x36_1) : Int).toNat, none⟩ (.int .i64 a0_0))) ?hg ?ho ?hn ?hr ?_; (case ho => rfl); (case hg => rfl); (case hn => rfl); (case hr => first | (go_simp; done) | (go_simp; rfl)); intro w30 hw; have hg : w27.grownBy w30 (some go22) := (by rw [hw]; exact HP29.2); have hp_ : Kd.R (Kd.int .i64) 3 w30 w.heap.size (fun k_ => (w.heap.size ≤ k_) ∧ some k_ ≠ (.slice Ao26 y179.length co26 : Value).ownBlock) (.slice (some ⟨go22, 0, none⟩) t182.length co22) y185 := (by rw [hw, Ny185.out]; exact HP29.1); clear HP29; have n0_ := Aside0.mk (Kd.N_afterv (v := (.slice (some ⟨go22, 0, none⟩) t182.length co22)) (v1 := (.slice (some ⟨go22, 0, none⟩) t182.length co22)) (ok := (fun k_ => (w.heap.size ≤ k_) ∧ some k_ ≠ (.slice Ao26 y179.length co26 : Value).ownBlock ∧ k_ ≠ gb165)) (by (with_reducible repeat (first | apply Kd.N_alloc | apply Kd.N_drewN | apply Kd.N_drew)); exact Kd.N_mono HO_10.out (fun _ hk => ⟨⟨hk.1.1.1, ⟨hk.1.2, hk.1.1.2⟩⟩, hk.2⟩)) hg (.inl rfl)); have n1_ := Aside0.mk (blk_grown (g := gb165) (o := .cells #[.int .i64 a0_0, .int .i64 a0_1] 23 (0, 0)) (by (with_reducible repeat (first | refine blk_drewN ?_ _ | refine blk_drew ?_ | refine blk_alloc ?_ _)); exact BK165.out) hg (Kd.R_ne HO184.out BK165.out (by decide))); have n2_ := Aside0.mk (Kd.R_after (v := (.slice (some ⟨go22, 0, none⟩) t182.length co22)) (v1 := (.slice (some ⟨go22, 0, none⟩) t182.length co22)) (ok := (fun k_ => (w.heap.size ≤ k_))) (by (with_reducible repeat (first | apply Kd.R_alloc | apply Kd.R_drewN | apply Kd.R_drew)); exact Kd.R_mono HO181.out (fun _ hk => ⟨hk.1.1, hk.2⟩)) hg (.inl rfl)); have n3_ := Aside0.mk (hp_); have n4_ := Aside0.mk ((by rw [hw]; exact below_set (HB.out) GB22.out : Below w.heap.size w w30)); clear HO_10; clear BK165; clear HO181; clear HO184; clear HB; have HO_10 := n0_; have BK165 := n1_; have HO181 := n2_; have HO184 := n3_; have HB := n4_; clear n0_ n1_ n2_ n3_ n4_; clear hg hw hp_; obtain ⟨Ao31, co31, eo31⟩ := Kd.N_slice HO_10.out; subst eo31))
                      go_loopg [14, 52] k1 (fun kq v14 v52 w' => ∃ (x13_2 : List Int) (x14_2 : List (S38)) (x52_2 : Int), v52 = .int .i64 x52_2 ∧ Aside0 (crowd_Shuffled.l1 kq a1 x13_2 x14_2 l2 (l2.length : Int) x36_1 x10_1 (x10_1.length : Int) x52_2 a0_0 a0_1 = some (r1, r2)) ∧ Aside0 (kq ≤ k1) ∧ Aside0 (Kd.R (Kd.int .i64) 3 w' w.heap.size (fun k_ => (w.heap.size ≤ k_)) (.slice (some ⟨go22, 0, none⟩) t182.length co22) x13_2) ∧ Aside0 (Kd.N k38 38 w' w.heap.size (fun k_ => (w.heap.size ≤ k_) ∧ some k_ ≠ ((.slice (some ⟨go22, 0, none⟩) t182.length co22) : Value).ownBlock ∧ some k_ ≠ ((.slice Ao31 x10_1.length co31) : Value).ownBlock ∧ k_ ≠ gb165) v14 x14_2) ∧ Aside0 (Kd.N k38 38 w' w.heap.size (fun k_ => (w.heap.size ≤ k_) ∧ some k_ ≠ ((.slice (some ⟨go22, 0, none⟩) t182.length co22) : Value).ownBlock ∧ some k_ ≠ (v14 : Value).ownBlock ∧ k_ ≠ gb165) (.slice Ao31 x10_1.length co31) x10_1) ∧ Aside0 (w'.heap[gb165]? = some (.cells #[.int .i64 a0_0, .int .i64 a0_1] 23 (0, 0))) ∧ Aside0 (Below w.heap.size w w'))
                      case atStart => exact ⟨(y185), (([] : List (S38))), (0), (by first | rfl | (simp; done) | (simp [*]; done)), H', ⟨Nat.le_refl _⟩, ⟨by (with_reducible repeat (first | apply Kd.R_alloc | apply Kd.R_drewN | apply Kd.R_drew)); exact Kd.R_mono HO184.out (fun _ hk => hk.1)⟩, ⟨by first | exact Kd.S_nil _ _ _ _ _ | exact Kd.N_nil _ _ _ _ _ | exact Kd.V_nil _ _ _ _ _ | exact Kd.Q_nil _ _ _ _ _ | exact Kd.R_nil _ _ _ _ _⟩, ⟨by (with_reducible repeat (first | apply Kd.N_alloc | apply Kd.N_drewN | apply Kd.N_drew)); exact Kd.N_mono HO_10.out (fun _ hk => ⟨hk.1.1, ⟨hk.2, ⟨(by simp [Value.ownBlock]), hk.1.2.2⟩⟩⟩)⟩, ⟨by (with_reducible repeat (first | refine blk_drewN ?_ _ | refine blk_drew ?_ | refine blk_alloc ?_ _)); exact BK165.out⟩, ⟨by repeat (first | (with_reducible first | exact HB.out | apply below_alloc | apply pw_below_drewN | apply below_drew1 | refine below_set ?_ GE165.out) | exact HB.out)⟩⟩
                      case round =>
                        clear H'
                        try clear c1
                        try clear p1
                        try clear q1
                        try clear hx1
                        try clear c2
                        try clear p2
                        try clear q2
                        try clear hx2
                        try clear c5
                        try clear c5b0
                        try clear c5b1
                        try clear c6
                        try clear c6b0
                        try clear c6b1
                        try clear c7
                        try clear c7b0
                        try clear c7b1
                        try clear c16
                        try clear c16b0
                        try clear c17
                        try clear c17b0
                        try clear p17
                        try clear q17
                        try clear hx17
                        try clear c18
                        try clear c18b0
                        try clear c20
                        try clear c20b0
                        try clear c21
                        try clear c21b0
                        try clear p22
                        try clear q22
                        try clear hx22
                        try clear hf22
                        try clear hcz23_0
                        try clear hcz23_1
                        try clear hcz28_0
                        try clear hcz28_1
                        try clear hcz9_0
                        try clear hcz9_1
                        try clear hfz23_0
                        try clear hfz23_1
                        try clear hfz28_0
                        try clear hfz28_1
                        try clear hfz9_0
                        try clear hfz9_1
                        try clear hx178_0
                        try clear hx22_0
                        try clear p178
                        try clear p2
                        try clear p22
                        try clear q178
                        try clear q22
                        obtain ⟨x13_2, x14_2, x52_2, rfl, HA, HK2, HO_13, HO_14, HO_50, BK165, HB⟩ := hrel
                        have hl13_2 := (Kd.R_reads' HO_13.out).1
                        rw [hl13_2] at HO_13
                        (try simp only [hl13_2])
                        (try simp only [hl13_2] at BK165)
                        (try simp only [hl13_2] at HO_14)
                        (try simp only [hl13_2] at HO_50)
                        cases gk with
                        | zero => exact absurd HA.out (by simp [crowd_Shuffled.l1])
                        | succ k2 =>
                          have H := HA.out
                          clear HA
                          simp only [crowd_Shuffled.l1] at H
                          by_cases c32 : x52_2 < (x10_1.length : Int)
                          · rw [if_pos c32] at H
                            have c32b0 : decide (x52_2 < (x10_1.length : Int)) = true := decide_eq_true c32
                            clear c32
                            by_cases c33 : 0 ≤ x52_2
                            · rw [if_pos c33] at H
                              have c33b0 : decide (0 ≤ x52_2) = true := decide_eq_true c33
                              clear c33
                              by_cases c34 : x52_2 < (x10_1.length : Int)
                              · rw [if_pos c34] at H
                                have c34b0 : decide (x52_2 < (x10_1.length : Int)) = true := decide_eq_true c34
                                clear c34
                                have H' := Aside0.mk H
                                clear H
                                have p189 : 0 ≤ (x52_2 : Int) := of_decide_eq_true (by first | (with_reducible assumption) | assumption)
                                have q189 : x52_2 < (x10_1.length : Int) := of_decide_eq_true (by first | (with_reducible assumption) | assumption)
                                obtain ⟨ad189, A189_0, c189_0, e189, hx189_0, hx189_1, hl189_0, hi189_0⟩ := at_T38 (Kd.N_reads' HO_50.out).2.2 x52_2 p189 q189
                                cases e189
                                obtain ⟨ce189, hce189, hMe189, hcc189⟩ := Kd.N_get HO_50.out z38 x52_2 p189 (by first | exact q189 | exact of_decide_eq_true (by first | (with_reducible assumption) | assumption) | (have e_ := (Kd.N_reads' HO_50.out).1; omega))
                                obtain ⟨ua189_0, uc189_0, rfl, ul189_0, ge189_0⟩ := k38_openF hMe189
                                have hv189_0 := hcc189 0 _ rfl
                                rw [Nat.add_zero] at hv189_0
                                replace hv189_0 := Option.some.inj (hv189_0.symm.trans hx189_0)
                                injection hv189_0 with hva_ hvn_ hvc_
                                rw [hva_] at ge189_0
                                rw [hvc_] at ul189_0
                                have HL189_0 := Aside0.mk (show Kd.V (Kd.int .i64) 3 _ w.heap.size _ _ ((rd_T38 x10_1 x52_2).f0) from Kd.V_mk ul189_0 ge189_0)
                                clear hva_ hvn_ hvc_ ge189_0 ul189_0
                                clear hcc189 hce189
                                have HR189_0 := Aside0.mk hi189_0
                                have HC189_0 := Aside0.mk hl189_0
                                clear hi189_0 hl189_0
                                replace p189 := eq_true p189
                                replace q189 := eq_true q189
                                go_wp2_with (first | ((with_reducible refine gate_dst (N := 16) rfl ?_); refine box_event ?hg (N := 16) ?hd (cs := #[.slice none 0 0, .int .i64 0]) (t := 38) ?hr ?_; (case hd => rfl); (case hg => rfl); (case hr => first | (go_simp; done) | (go_simp; rfl)); intro gb190 hg w35 hbox hb; have n0_ := Aside0.mk (Kd.R_below (by (with_reducible repeat (first | apply Kd.R_alloc | apply Kd.R_drewN | apply Kd.R_drew)); exact HO_13.out) hb); have n1_ := Aside0.mk (Kd.N_below (Kd.N_elderB (by (with_reducible repeat (first | apply Kd.N_alloc | apply Kd.N_drewN | apply Kd.N_drew)); exact HO_14.out) gb190 (Nat.le_of_eq hg.symm)) hb); have n2_ := Aside0.mk (Kd.N_below (Kd.N_elderB (by (with_reducible repeat (first | apply Kd.N_alloc | apply Kd.N_drewN | apply Kd.N_drew)); exact HO_50.out) gb190 (Nat.le_of_eq hg.symm)) hb); have n3_ := Aside0.mk (Kd.V_below (Kd.V_elderB (by (with_reducible repeat (first | apply Kd.V_alloc | apply Kd.V_drewN | apply Kd.V_drew)); exact HL189_0.out) gb190 (Nat.le_of_eq hg.symm)) hb); have n4_ := Aside0.mk (blk_below (g := gb165) (o := .cells #[.int .i64 a0_0, .int .i64 a0_1] 23 (0, 0)) (by (with_reducible repeat (first | refine blk_drewN ?_ _ | refine blk_drew ?_ | refine blk_alloc ?_ _)); exact BK165.out) hb); have n5_ := Aside0.mk (Kd.C_below (by repeat (first | (with_reducible exact HR189_0.out) | (with_reducible refine Kd.C_alloc ?_ _) | (with_reducible refine Kd.C_drewN ?_ _) | (with_reducible refine Kd.C_drew ?_) | exact HR189_0.out)) hb); have n6_ := Aside0.mk (below_step (by repeat (first | (with_reducible first | exact HB.out | apply below_alloc | apply pw_below_drewN | apply below_drew1 | refine below_set ?_ GE165.out) | exact HB.out)) hb); have n7_ := Aside0.mk (hbox); have n8_ := Aside0.mk ((by rw [hg]; exact (below_size (by repeat (first | (with_reducible first | exact HB.out | apply below_alloc | apply pw_below_drewN | apply below_drew1 | refine below_set ?_ GE165.out) | exact HB.out))) : w.heap.size ≤ gb190)); have n9_ := Aside0.mk ((by rw [hg]; exact (below_size (by repeat (first | (with_reducible first | exact HB.out | apply below_alloc | apply pw_below_drewN | apply below_drew1 | refine below_set ?_ GE165.out) | exact HB.out))) : w.heap.size ≤ gb190)); have n10_ := Aside0.mk ((by rw [hg]; exact Nat.ne_of_lt (blk_lt (g := gb165) (o := .cells #[.int .i64 a0_0, .int .i64 a0_1] 23 (0, 0)) (by (with_reducible repeat (first | refine blk_drewN ?_ _ | refine blk_drew ?_ | refine blk_alloc ?_ _)); exact BK165.out)) : gb165 ≠ gb190)); have n11_ := Aside0.mk ((by rw [hg]; exact Nat.ne_of_gt (blk_lt (g := gb165) (o := .cells #[.int .i64 a0_0, .int .i64 a0_1] 23 (0, 0)) (by (with_reducible repeat (first | refine blk_drewN ?_ _ | refine blk_drew ?_ | refine blk_alloc ?_ _)); exact BK165.out)) : gb190 ≠ gb165)); clear HO_13; clear HO_14; clear HO_50; clear HL189_0; clear BK165; clear HR189_0; clear HB; have HO_13 := n0_; have HO_14 := n1_; have HO_50 := n2_; have HL189_0 := n3_; have BK165 := n4_; have HR189_0 := n5_; have HB := n6_; have BK190 := n7_; have GW190 := n8_; have GE190 := n9_; have NB165_190 := n10_; have NB190_165 := n11_; clear n0_ n1_ n2_ n3_ n4_ n5_ n6_ n7_ n8_ n9_ n10_ n11_; clear hb hbox hg; have hnb36 := NB190_165.out; have hnc36 := NB165_190.out; have hcz37_0 : w35.cell? ⟨gb190, 0, none⟩ = some (.slice none 0 0) := (blk_cell BK190.out 0).trans rfl; have hcz37_1 : w35.cell? ⟨gb190, 1, none⟩ = some (.int .i64 0) := (blk_cell BK190.out 1).trans rfl; have hfz37_0 := blk_frozen BK190.out 0; have hfz37_1 := blk_frozen BK190.out 1))
                                go_loopg [14, 58] k2 (fun kq v14 v58 w' => ∃ (x13_3 : List Int) (x14_3 : List (S38)) (x58_3 : Int), v58 = .int .i64 x58_3 ∧ Aside0 (crowd_Shuffled.l2 kq a1 x13_3 x14_3 l2 (l2.length : Int) x36_1 x10_1 (x10_1.length : Int) x52_2 (x13_2.length : Int) x58_3 a0_0 a0_1 ((rd_T38 x10_1 x52_2).f0) ((rd_T38 x10_1 x52_2).f1) = some (r1, r2)) ∧ Aside0 (kq ≤ k2) ∧ Aside0 (Kd.R (Kd.int .i64) 3 w' w.heap.size (fun k_ => (w.heap.size ≤ k_)) (.slice (some ⟨go22, 0, none⟩) x13_2.length co22) x13_3) ∧ Aside0 (Kd.N k38 38 w' w.heap.size (fun k_ => (w.heap.size ≤ k_) ∧ some k_ ≠ ((.slice (some ⟨go22, 0, none⟩) x13_2.length co22) : Value).ownBlock ∧ some k_ ≠ ((.slice (some ad189) x10_1.length co31) : Value).ownBlock ∧ k_ ≠ gb165 ∧ k_ ≠ gb190) v14 x14_3) ∧ Aside0 (Kd.N k38 38 w' w.heap.size (fun k_ => (w.heap.size ≤ k_) ∧ some k_ ≠ ((.slice (some ⟨go22, 0, none⟩) x13_2.length co22) : Value).ownBlock ∧ some k_ ≠ (v14 : Value).ownBlock ∧ k_ ≠ gb165 ∧ k_ ≠ gb190) (.slice (some ad189) x10_1.length co31) x10_1) ∧ Aside0 (Kd.V (Kd.int .i64) 3 w' w.heap.size (fun k_ => (w.heap.size ≤ k_) ∧ some k_ ≠ ((.slice (some ⟨go22, 0, none⟩) x13_2.length co22) : Value).ownBlock ∧ some k_ ≠ (v14 : Value).ownBlock ∧ k_ ≠ gb165 ∧ k_ ≠ gb190) (.slice A189_0 ((rd_T38 x10_1 x52_2).f0).length c189_0) ((rd_T38 x10_1 x52_2).f0)) ∧ Aside0 (w'.heap[gb165]? = some (.cells #[.int .i64 a0_0, .int .i64 a0_1] 23 (0, 0))) ∧ Aside0 (w'.heap[gb190]? = some (.cells #[(.slice A189_0 ((rd_T38 x10_1 x52_2).f0).length c189_0), .int .i64 ((rd_T38 x10_1 x52_2).f1)] 38 (0, 0))) ∧ Aside0 (Below w.heap.size w w'))
                                case atStart => exact ⟨(x13_2), (x14_2), (0), (by first | rfl | (simp; done) | (simp [*]; done)), H', ⟨Nat.le_refl _⟩, ⟨by (try simp only [hl13_2]); (with_reducible repeat (first | apply Kd.R_alloc | apply Kd.R_drewN | apply Kd.R_drew)); exact Kd.R_mono (Kd.R_far (p := ⟨gb190, 1, none⟩) (Kd.R_far (p := ⟨gb190, 0, none⟩) (Kd.R_types HO_13.out BK190.out (by decide)) (fun _ hk => hk.2) (.slice A189_0 ((rd_T38 x10_1 x52_2).f0).length c189_0)) (fun _ hk => hk.2) (.int .i64 ((rd_T38 x10_1 x52_2).f1))) (fun _ hk => hk.1)⟩, ⟨by (try simp only [hl13_2]); (with_reducible repeat (first | apply Kd.N_alloc | apply Kd.N_drewN | apply Kd.N_drew)); exact Kd.N_mono (Kd.N_far (p := ⟨gb190, 1, none⟩) (Kd.N_far (p := ⟨gb190, 0, none⟩) (Kd.N_mono HO_14.out (fun k_ hk => (⟨hk, hk.2⟩ : _ ∧ k_ ≠ gb190))) (fun _ hk => hk.2) (.slice A189_0 ((rd_T38 x10_1 x52_2).f0).length c189_0)) (fun _ hk => hk.2) (.int .i64 ((rd_T38 x10_1 x52_2).f1))) (fun _ hk => ⟨hk.1.1.1, ⟨hk.1.1.2.1, ⟨hk.1.1.2.2.1, ⟨hk.1.1.2.2.2, hk.1.2⟩⟩⟩⟩)⟩, ⟨by (try simp only [hl13_2]); (with_reducible repeat (first | apply Kd.N_alloc | apply Kd.N_drewN | apply Kd.N_drew)); exact Kd.N_mono (Kd.N_far (p := ⟨gb190, 1, none⟩) (Kd.N_far (p := ⟨gb190, 0, none⟩) (Kd.N_mono HO_50.out (fun k_ hk => (⟨hk, hk.2⟩ : _ ∧ k_ ≠ gb190))) (fun _ hk => hk.2) (.slice A189_0 ((rd_T38 x10_1 x52_2).f0).length c189_0)) (fun _ hk => hk.2) (.int .i64 ((rd_T38 x10_1 x52_2).f1))) (fun _ hk => ⟨hk.1.1.1, ⟨hk.1.1.2.1, ⟨hk.1.1.2.2.1, ⟨hk.1.1.2.2.2, hk.1.2⟩⟩⟩⟩)⟩, ⟨by (try simp only [hl13_2]); (with_reducible repeat (first | apply Kd.V_alloc | apply Kd.V_drewN | apply Kd.V_drew)); exact Kd.V_mono (Kd.V_far (p := ⟨gb190, 1, none⟩) (Kd.V_far (p := ⟨gb190, 0, none⟩) (Kd.V_mono HL189_0.out (fun k_ hk => (⟨hk, hk.2⟩ : _ ∧ k_ ≠ gb190))) (fun _ hk => hk.2) (.slice A189_0 ((rd_T38 x10_1 x52_2).f0).length c189_0)) (fun _ hk => hk.2) (.int .i64 ((rd_T38 x10_1 x52_2).f1))) (fun _ hk => ⟨hk.1.1.1.1, ⟨hk.1.1.1.2.1, ⟨hk.1.1.1.2.2.1, ⟨hk.1.1.1.2.2.2, hk.1.2⟩⟩⟩⟩)⟩, ⟨by (try simp only [hl13_2]); (with_reducible repeat (first | refine blk_drewN ?_ _ | refine blk_drew ?_ | refine blk_alloc ?_ _)); refine blk_far ?_ NB165_190.out _; (with_reducible repeat (first | refine blk_drewN ?_ _ | refine blk_drew ?_ | refine blk_alloc ?_ _)); refine blk_far ?_ NB165_190.out _; (with_reducible repeat (first | refine blk_drewN ?_ _ | refine blk_drew ?_ | refine blk_alloc ?_ _)); exact BK165.out⟩, ⟨by (try simp only [hl13_2]); (with_reducible repeat (first | refine blk_drewN ?_ _ | refine blk_drew ?_ | refine blk_alloc ?_ _)); refine blk_put (cs := #[.slice A189_0 ((rd_T38 x10_1 x52_2).f0).length c189_0, .int .i64 0]) ?_ 1 _ rfl; (with_reducible repeat (first | refine blk_drewN ?_ _ | refine blk_drew ?_ | refine blk_alloc ?_ _)); refine blk_put (cs := #[.slice none 0 0, .int .i64 0]) ?_ 0 _ rfl; (with_reducible repeat (first | refine blk_drewN ?_ _ | refine blk_drew ?_ | refine blk_alloc ?_ _)); exact BK190.out⟩, ⟨by repeat (first | (with_reducible first | exact HB.out | apply below_alloc | apply pw_below_drewN | apply below_drew1 | refine below_set ?_ GE165.out | refine below_set ?_ GE190.out) | exact HB.out)⟩⟩
                                case round =>
                                  clear H'
                                  try clear c1
                                  try clear p1
                                  try clear q1
                                  try clear hx1
                                  try clear c2
                                  try clear p2
                                  try clear q2
                                  try clear hx2
                                  try clear c3
                                  try clear c5
                                  try clear c5b0
                                  try clear c5b1
                                  try clear c6
                                  try clear c6b0
                                  try clear c6b1
                                  try clear c7
                                  try clear c7b0
                                  try clear c7b1
                                  try clear c16
                                  try clear c16b0
                                  try clear c17
                                  try clear c17b0
                                  try clear p17
                                  try clear q17
                                  try clear hx17
                                  try clear c18
                                  try clear c18b0
                                  try clear p18
                                  try clear q18
                                  try clear hx18
                                  try clear c20
                                  try clear c20b0
                                  try clear c21
                                  try clear c21b0
                                  try clear p22
                                  try clear q22
                                  try clear hx22
                                  try clear hf22
                                  try clear c32
                                  try clear c32b0
                                  try clear c33
                                  try clear c33b0
                                  try clear c34
                                  try clear c34b0
                                  try clear c36
                                  try clear hcz23_0
                                  try clear hcz23_1
                                  try clear hcz28_0
                                  try clear hcz28_1
                                  try clear hcz37_0
                                  try clear hcz37_1
                                  try clear hcz9_0
                                  try clear hcz9_1
                                  try clear hfz23_0
                                  try clear hfz23_1
                                  try clear hfz28_0
                                  try clear hfz28_1
                                  try clear hfz37_0
                                  try clear hfz37_1
                                  try clear hfz9_0
                                  try clear hfz9_1
                                  try clear hx178_0
                                  try clear hx189_0
                                  try clear hx189_1
                                  try clear hx22_0
                                  try clear p1
                                  try clear p17
                                  try clear p178
                                  try clear p189
                                  try clear p2
                                  try clear p22
                                  try clear q1
                                  try clear q17
                                  try clear q178
                                  try clear q189
                                  try clear q2
                                  try clear q22
                                  obtain ⟨x13_3, x14_3, x58_3, rfl, HA, HK3, HO_13, HO_14, HO_50, HQ189, BK165, BK190, HB⟩ := hrel
                                  have hl13_3 := (Kd.R_reads' HO_13.out).1
                                  rw [hl13_3] at HO_13
                                  (try simp only [hl13_3])
                                  (try simp only [hl13_3] at BK165)
                                  (try simp only [hl13_3] at BK190)
                                  (try simp only [hl13_3] at HO_14)
                                  (try simp only [hl13_3] at HO_50)
                                  cases gk with
                                  | zero => exact absurd HA.out (by simp [crowd_Shuffled.l2])
                                  | succ k3 =>
                                    have H := HA.out
                                    clear HA
                                    simp only [crowd_Shuffled.l2] at H
                                    by_cases c38 : x58_3 < (x13_2.length : Int)
                                    · rw [if_pos c38] at H
                                      have c38b0 : decide (x58_3 < (x13_2.length : Int)) = true := decide_eq_true c38
                                      clear c38
                                      by_cases c39 : 0 ≤ x58_3
                                      · rw [if_pos c39] at H
                                        have c39b0 : decide (0 ≤ x58_3) = true := decide_eq_true c39
                                        clear c39
                                        by_cases c40 : x58_3 < (x13_3.length : Int)
                                        · rw [if_pos c40] at H
                                          have c40b0 : decide (x58_3 < (x13_3.length : Int)) = true := decide_eq_true c40
                                          clear c40
                                          replace H := Option.bind_eq_some_iff.mp H
                                          obtain ⟨t192, A410, H⟩ := H
                                          replace H : (if x58_3 < (t192.length : Int) then (if x14_3.length < 4398046511104 then (crowd_Shuffled.l2 k3 a1 x13_3 (x14_3 ++ [(⟨(t192.set (x58_3 : Int).toNat (wrap64 ((rd t192 x58_3) + 1))), wrap64 (((rd_T38 x10_1 x52_2).f1) * (rd x13_3 x58_3))⟩ : S38)]) l2 (l2.length : Int) x36_1 x10_1 (x10_1.length : Int) x52_2 (x13_2.length : Int) (wrap64 (x58_3 + 1)) a0_0 a0_1 ((rd_T38 x10_1 x52_2).f0) ((rd_T38 x10_1 x52_2).f1)) else (none)) else (none)) = some (r1, r2) := H
                                          have A41 := Aside0.mk A410
                                          clear A410
                                          by_cases c42 : x58_3 < (t192.length : Int)
                                          · rw [if_pos c42] at H
                                            have c42b0 : decide (x58_3 < (t192.length : Int)) = true := decide_eq_true c42
                                            clear c42
                                            obtain ⟨y196, hy196⟩ : ∃ y_ : List Int, y_ = (t192.set (x58_3 : Int).toNat (wrap64 ((rd t192 x58_3) + 1))) := ⟨_, rfl⟩
                                            replace H : (if x14_3.length < 4398046511104 then (crowd_Shuffled.l2 k3 a1 x13_3 (x14_3 ++ [(⟨y196, wrap64 (((rd_T38 x10_1 x52_2).f1) * (rd x13_3 x58_3))⟩ : S38)]) l2 (l2.length : Int) x36_1 x10_1 (x10_1.length : Int) x52_2 (x13_2.length : Int) (wrap64 (x58_3 + 1)) a0_0 a0_1 ((rd_T38 x10_1 x52_2).f0) ((rd_T38 x10_1 x52_2).f1)) else (none)) = some (r1, r2) := by first | (rw [hy196]; with_reducible exact H) | (have H2_ := (Option.bind_some _ _).symm.trans H; rw [hy196]; with_reducible exact H2_) | (have H2_ := (Option.bind_some _ _).symm.trans H; with_reducible exact H2_) | with_reducible exact H | (rw [hy196]; exact H) | exact H
                                            have Ny196 := Aside0.mk hy196
                                            clear hy196
                                            by_cases c44 : x14_3.length < 4398046511104
                                            · rw [if_pos c44] at H
                                              have LMc44 := Aside0.mk c44
                                              clear c44
                                              obtain ⟨y197, hy197⟩ : ∃ y_ : List (S38), y_ = (x14_3 ++ [(⟨y196, wrap64 (((rd_T38 x10_1 x52_2).f1) * (rd x13_3 x58_3))⟩ : S38)]) := ⟨_, rfl⟩
                                              replace H : (crowd_Shuffled.l2 k3 a1 x13_3 y197 l2 (l2.length : Int) x36_1 x10_1 (x10_1.length : Int) x52_2 (x13_2.length : Int) (wrap64 (x58_3 + 1)) a0_0 a0_1 ((rd_T38 x10_1 x52_2).f0) ((rd_T38 x10_1 x52_2).f1)) = some (r1, r2) := by first | (rw [hy197]; with_reducible exact H) | (have H2_ := (Option.bind_some _ _).symm.trans H; rw [hy197]; with_reducible exact H2_) | (have H2_ := (Option.bind_some _ _).symm.trans H; with_reducible exact H2_) | with_reducible exact H | (rw [hy197]; exact H) | exact H
                                              have Ny197 := Aside0.mk hy197
                                              clear hy197
                                              have H' := Aside0.mk H
                                              clear H
                                              have p191 : 0 ≤ (x58_3 : Int) := of_decide_eq_true (by first | (with_reducible assumption) | assumption)
                                              have q191 : x58_3 < (x13_3.length : Int) := of_decide_eq_true (by first | (with_reducible assumption) | assumption)
                                              obtain ⟨ad191, e191, hx191_0⟩ := Kd.at_int (Kd.R_reads' HO_13.out).2.2 x58_3 p191 q191
                                              obtain rfl : (⟨go22, 0, none⟩ : Addr) = ad191 := (by injection e191)
                                              (first | simp only [add_plain] at hx191_0 | simp only [add_at] at hx191_0 | simp only [Addr.add, Nat.zero_add] at hx191_0 | skip)
                                              replace p191 := eq_true p191
                                              replace q191 := eq_true q191
                                              have hnb45 := NB190_165.out
                                              have hnc45 := NB165_190.out
                                              have hcz46_0 : wr.cell? ⟨gb190, 0, none⟩ = some (.slice A189_0 ((rd_T38 x10_1 x52_2).f0).length c189_0) := (blk_cell BK190.out 0).trans rfl
                                              have hcz46_1 : wr.cell? ⟨gb190, 1, none⟩ = some (.int .i64 ((rd_T38 x10_1 x52_2).f1)) := (blk_cell BK190.out 1).trans rfl
                                              have hfz46_0 := blk_frozen BK190.out 0
                                              have hfz46_1 := blk_frozen BK190.out 1
                                              go_wp2_with (first | ((with_reducible refine gate_callee (f := 19) rfl ?_); refine goesL_ (some 65) rfl rfl Try.func19 (by kernel_rfl) rfl #[.slice A189_0 ((rd_T38 x10_1 x52_2).f0).length c189_0] rfl (by (try simp only [List.map_toArray, List.map_cons, List.map_nil]); first | done | rfl | (simp only [List.length_drop, List.length_take]; rfl)) ?_; (with_reducible refine (slices_Clone_int_int.calls _ _ ((rd_T38 x10_1 x52_2).f0) t192 _ ?side1 ?side2 A41.out).mono ?_); (case side1 => repeat (first | exact (Kd.V_reads' HQ189.out).2.2 | (with_reducible refine Kd.C_alloc ?_ _) | (with_reducible refine Kd.C_drewN ?_ _) | (with_reducible refine Kd.C_drew ?_))); (case side2 => exact HC189_0.out); rintro e w47 ⟨v193, rfl, ho0, hb⟩; refine ⟨_, rfl, ?_⟩; have n0_ := Aside0.mk (Kd.R_elder' (by (with_reducible repeat (first | apply Kd.R_alloc | apply Kd.R_drewN | apply Kd.R_drew)); exact HO_13.out) (Kd.R_base ho0) hb); have n1_ := Aside0.mk (Kd.N_elder' (by (with_reducible repeat (first | apply Kd.N_alloc | apply Kd.N_drewN | apply Kd.N_drew)); exact HO_14.out) (Kd.R_base ho0) hb); have n2_ := Aside0.mk (Kd.N_elder' (by (with_reducible repeat (first | apply Kd.N_alloc | apply Kd.N_drewN | apply Kd.N_drew)); exact HO_50.out) (Kd.R_base ho0) hb); have nq189_ := Aside0.mk (Kd.V_elder' (by (with_reducible repeat (first | apply Kd.V_alloc | apply Kd.V_drewN | apply Kd.V_drew)); exact HQ189.out) (Kd.R_base ho0) hb); have n3_ := Aside0.mk (Kd.R_lower (Kd.R_new' (Kd.R_newM (M := fun k_ => (w.heap.size ≤ k_)) ho0 (below_size (by repeat (first | (with_reducible first | exact HB.out | apply below_alloc | apply pw_below_drewN | apply below_drew1 | refine below_set ?_ GE165.out | refine below_set ?_ GE190.out) | exact HB.out))) (fun k_ h_ => h_)) (Kd.R_lt (by (with_reducible repeat (first | apply Kd.R_alloc | apply Kd.R_drewN | apply Kd.R_drew)); exact HO_13.out))) (below_size (by repeat (first | (with_reducible first | exact HB.out | apply below_alloc | apply pw_below_drewN | apply below_drew1 | refine below_set ?_ GE165.out | refine below_set ?_ GE190.out) | exact HB.out)))); have n4_ := Aside0.mk (blk_below (g := gb165) (o := .cells #[.int .i64 a0_0, .int .i64 a0_1] 23 (0, 0)) (by (with_reducible repeat (first | refine blk_drewN ?_ _ | refine blk_drew ?_ | refine blk_alloc ?_ _)); exact BK165.out) hb); have n5_ := Aside0.mk (blk_below (g := gb190) (o := .cells #[.slice A189_0 ((rd_T38 x10_1 x52_2).f0).length c189_0, .int .i64 ((rd_T38 x10_1 x52_2).f1)] 38 (0, 0)) (by (with_reducible repeat (first | refine blk_drewN ?_ _ | refine blk_drew ?_ | refine blk_alloc ?_ _)); exact BK190.out) hb); have n6_ := Aside0.mk (below_step (by repeat (first | (with_reducible first | exact HB.out | apply below_alloc | apply pw_below_drewN | apply below_drew1 | refine below_set ?_ GE165.out | refine below_set ?_ GE190.out) | exact HB.out)) hb); clear HO_13; clear HO_14; clear HO_50; clear HQ189; clear BK165; clear BK190; clear HB; have HO_13 := n0_; have HO_14 := n1_; have HO_50 := n2_; have HQ189 := nq189_; have HO194 := n3_; have BK165 := n4_; have BK190 := n5_; have HB := n6_; clear nq189_ n0_ n1_ n2_ n3_ n4_ n5_ n6_; (try clear hb); (try clear hb2); (try clear hk); (try clear hi); (try clear ho0); obtain ⟨Ao48, co48, eo48⟩ := Kd.R_slice HO194.out; subst eo48; have p195 : 0 ≤ (x58_3 : Int) := of_decide_eq_true (by first | (with_reducible assumption) | assumption); have q195 : x58_3 < (t192.length : Int) := of_decide_eq_true (by first | (with_reducible assumption) | assumption); obtain ⟨ad195, e195, hx195_0⟩ := Kd.at_int (Kd.R_reads' HO194.out).2.2 x58_3 p195 q195; cases e195; replace p195 := eq_true p195; replace q195 := eq_true q195; have p43 : 0 ≤ (x58_3 : Int) := of_decide_eq_true (by first | (with_reducible assumption) | assumption); have q43 : (x58_3 : Int) < ((t192.length : Int) : Int) := of_decide_eq_true (by first | (with_reducible assumption) | assumption); obtain ⟨go43, co43, eo43, gb43, gl43, cl43, HG43⟩ := Kd.R_form HO194.out (by omega); (first | cases eo43 | (injection eo43 with ea_ en_ ec_; (first | subst ea_ | (injection ea_ with ea_; subst ea_)); subst ec_; clear en_)); have GB43 := Aside0.mk gb43; have GG43 := Aside0.mk HG43; clear gb43 gl43 HG43; (first | simp only [add_plain] at hx195_0 | skip); obtain ⟨hx43_0, hf43_0⟩ := Kd.R_celln 0 HO194.out (x58_3 : Int) p43 q43; replace p43 := eq_true p43; replace q43 := eq_true q43; have n_ := Aside0.mk (Kd.R_mono (ok' := (fun k_ => (w.heap.size ≤ k_) ∧ some k_ ≠ (.slice (some ⟨go22, 0, none⟩) x13_3.length co22 : Value).ownBlock)) HO194.out (fun k_ hk => ⟨hk.1.1, hk.2⟩)); clear HO194; have HO194 := n_; clear n_; obtain ⟨hy49_, hz49_⟩ := Kd.R_celln 0 HO194.out (x58_3 : Int) (of_decide_eq_true (by first | (with_reducible assumption) | assumption)) (of_decide_eq_true (by first | (with_reducible assumption) | assumption)); have HP49 := Kd.R_putg HO194.out (x58_3 : Int) (wrap64 ((rd t192 x58_3) + 1))) | ((with_reducible refine gate_store (t := 3) (p := 71) rfl ?_); refine store_event (t := 3) (p := 71) (v := ?vo_w50) (w1 := (w47.setCell ⟨go43, (x58_3 : Int).toNat, none⟩ (.int .i64 (wrap64 ((rd t192 x58_3) + 1))))) ?hg ?ho ?hn ?hr ?_; (case ho => rfl); (case hg => rfl); (case hn => rfl); (case hr => first | (go_simp; done) | (go_simp; rfl)); intro w50 hw; have hg : w47.grownBy w50 (some go43) := (by rw [hw]; exact HP49.2); have hp_ : Kd.R (Kd.int .i64) 3 w50 w.heap.size (fun k_ => (w.heap.size ≤ k_) ∧ some k_ ≠ (.slice (some ⟨go22, 0, none⟩) x13_3.length co22 : Value).ownBlock) (.slice (some ⟨go43, 0, none⟩) t192.length co48) y196 := (by rw [hw, Ny196.out]; exact HP49.1); clear HP49; have n0_ := Aside0.mk (Kd.R_after (v := (.slice (some ⟨go43, 0, none⟩) t192.length co48)) (v1 := (.slice (some ⟨go43, 0, none⟩) t192.length co48)) (ok := (fun k_ => (w.heap.size ≤ k_))) (by (with_reducible repeat (first | apply Kd.R_alloc | apply Kd.R_drewN | apply Kd.R_drew)); exact HO_13.out) hg (.inl rfl)); have n1_ := Aside0.mk (Kd.N_afterv (v := (.slice (some ⟨go43, 0, none⟩) t192.length co48)) (v1 := (.slice (some ⟨go43, 0, none⟩) t192.length co48)) (ok := (fun k_ => (w.heap.size ≤ k_) ∧ some k_ ≠ (.slice (some ⟨go22, 0, none⟩) x13_3.length co22 : Value).ownBlock ∧ some k_ ≠ (.slice (some ad189) x10_1.length co31 : Value).ownBlock ∧ k_ ≠ gb165 ∧ k_ ≠ gb190)) (by (with_reducible repeat (first | apply Kd.N_alloc | apply Kd.N_drewN | apply Kd.N_drew)); exact HO_14.out) hg (.inl rfl)); have n2_ := Aside0.mk (Kd.N_afterv (v := (.slice (some ⟨go43, 0, none⟩) t192.length co48)) (v1 := (.slice (some ⟨go43, 0, none⟩) t192.length co48)) (ok := (fun k_ => (w.heap.size ≤ k_) ∧ some k_ ≠ (.slice (some ⟨go22, 0, none⟩) x13_3.length co22 : Value).ownBlock ∧ some k_ ≠ (u14 : Value).ownBlock ∧ k_ ≠ gb165 ∧ k_ ≠ gb190)) (by (with_reducible repeat (first | apply Kd.N_alloc | apply Kd.N_drewN | apply Kd.N_drew)); exact HO_50.out) hg (.inl rfl)); have nq189_ := Aside0.mk (Kd.V_afterv (v := (.slice (some ⟨go43, 0, none⟩) t192.length co48)) (v1 := (.slice (some ⟨go43, 0, none⟩) t192.length co48)) (ok := (fun k_ => (w.heap.size ≤ k_) ∧ some k_ ≠ (.slice (some ⟨go22, 0, none⟩) x13_3.length co22 : Value).ownBlock ∧ some k_ ≠ (u14 : Value).ownBlock ∧ k_ ≠ gb165 ∧ k_ ≠ gb190)) (by (with_reducible repeat (first | apply Kd.V_alloc | apply Kd.V_drewN | apply Kd.V_drew)); exact HQ189.out) hg (.inl rfl)); have n3_ := Aside0.mk (blk_grown (g := gb165) (o := .cells #[.int .i64 a0_0, .int .i64 a0_1] 23 (0, 0)) (by (with_reducible repeat (first | refine blk_drewN ?_ _ | refine blk_drew ?_ | refine blk_alloc ?_ _)); exact BK165.out) hg (Kd.R_ne HO194.out BK165.out (by decide))); have n4_ := Aside0.mk (blk_grown (g := gb190) (o := .cells #[.slice A189_0 ((rd_T38 x10_1 x52_2).f0).length c189_0, .int .i64 ((rd_T38 x10_1 x52_2).f1)] 38 (0, 0)) (by (with_reducible repeat (first | refine blk_drewN ?_ _ | refine blk_drew ?_ | refine blk_alloc ?_ _)); exact BK190.out) hg (Kd.R_ne HO194.out BK190.out (by decide))); have n5_ := Aside0.mk (hp_); have n6_ := Aside0.mk ((by rw [hw]; exact below_set (HB.out) GB43.out : Below w.heap.size w w50)); clear HO_13; clear HO_14; clear HO_50; clear HQ189; clear BK165; clear BK190; clear HO194; clear HB; have HO_13 := n0_; have HO_14 := n1_; have HO_50 := n2_; have HQ189 := nq189_; have BK165 := n3_; have BK190 := n4_; have HO194 := n5_; have HB := n6_; clear nq189_ n0_ n1_ n2_ n3_ n4_ n5_ n6_; clear hg hw hp_; have hcz51_0 : w50.cell? ⟨gb190, 0, none⟩ = some (.slice A189_0 ((rd_T38 x10_1 x52_2).f0).length c189_0) := (blk_cell BK190.out 0).trans rfl; have hcz51_1 : w50.cell? ⟨gb190, 1, none⟩ = some (.int .i64 ((rd_T38 x10_1 x52_2).f1)) := (blk_cell BK190.out 1).trans rfl; have hfz51_0 := blk_frozen BK190.out 0; have hfz51_1 := blk_frozen BK190.out 1) | ((with_reducible refine gate_builtin (b := .append) (xs := #[.tmp 72, .tmp 79]) rfl ?_); at_builtin; refine Kd.N_append k38 (w0 := w) w.heap.size rfl (.tmp 72) (.tmp 79) 27 38 (.agg #[(.slice none 0 0), (.int .i64 0)]) 32 rfl Try.underlying27 info38 rfl (by decide) (by omega) u14 x14_3 (⟨y196, wrap64 (((rd_T38 x10_1 x52_2).f1) * (rd x13_3 x58_3))⟩ : S38) [.slice (some ⟨go43, 0, none⟩) t192.length co48, .int .i64 (wrap64 (((rd_T38 x10_1 x52_2).f1) * (rd x13_3 x58_3)))] (fun k_ => (w.heap.size ≤ k_) ∧ some k_ ≠ (.slice (some ⟨go22, 0, none⟩) x13_3.length co22 : Value).ownBlock ∧ some k_ ≠ (.slice (some ad189) x10_1.length co31 : Value).ownBlock ∧ k_ ≠ gb165 ∧ k_ ≠ gb190) (fun k_ => ((fun k_ => (w.heap.size ≤ k_) ∧ some k_ ≠ (.slice (some ⟨go22, 0, none⟩) x13_3.length co22 : Value).ownBlock ∧ some k_ ≠ (.slice (some ad189) x10_1.length co31 : Value).ownBlock ∧ k_ ≠ gb165 ∧ k_ ≠ gb190)) k_ ∧ some k_ ≠ (u14 : Value).ownBlock) rfl rfl ?aP (fun _ hk => hk) ?aF ?aO ?aB ?aS ?aL ?_; (case aP => have hz_ := (Kd.R_reads' HO194.out).1; have HZ_ := HO194.out; rw [hz_] at HZ_; rw [hz_]; exact (k38_mkF _ _ (⟨y196, wrap64 (((rd_T38 x10_1 x52_2).f1) * (rd x13_3 x58_3))⟩ : S38) (Kd.R_reads' (Kd.R_mono (ok' := (fun k_ => ((fun k_ => (w.heap.size ≤ k_) ∧ some k_ ≠ (.slice (some ⟨go22, 0, none⟩) x13_3.length co22 : Value).ownBlock ∧ some k_ ≠ (.slice (some ad189) x10_1.length co31 : Value).ownBlock ∧ k_ ≠ gb165 ∧ k_ ≠ gb190)) k_ ∧ some k_ ≠ (u14 : Value).ownBlock)) (Kd.R_types (Kd.R_types (Kd.R_apart' (Kd.R_apart' (HZ_) (Kd.N_typed HO_50.out) (by decide)) (Kd.N_typed HO_14.out) (by decide)) BK165.out (by decide)) BK190.out (by decide)) (fun k_ hk => ⟨⟨hk.1.1.1.1.1, ⟨hk.1.1.1.1.2, ⟨hk.1.1.1.2, ⟨hk.1.2, hk.2⟩⟩⟩⟩, hk.1.1.2⟩))).2.1 (Kd.R_F (Kd.R_mono (ok' := (fun k_ => ((fun k_ => (w.heap.size ≤ k_) ∧ some k_ ≠ (.slice (some ⟨go22, 0, none⟩) x13_3.length co22 : Value).ownBlock ∧ some k_ ≠ (.slice (some ad189) x10_1.length co31 : Value).ownBlock ∧ k_ ≠ gb165 ∧ k_ ≠ gb190)) k_ ∧ some k_ ≠ (u14 : Value).ownBlock)) (Kd.R_types (Kd.R_types (Kd.R_apart' (Kd.R_apart' (HZ_) (Kd.N_typed HO_50.out) (by decide)) (Kd.N_typed HO_14.out) (by decide)) BK165.out (by decide)) BK190.out (by decide)) (fun k_ hk => ⟨⟨hk.1.1.1.1.1, ⟨hk.1.1.1.1.2, ⟨hk.1.1.1.2, ⟨hk.1.2, hk.2⟩⟩⟩⟩, hk.1.1.2⟩))))); (case aB => exact (by repeat (first | (with_reducible first | exact HB.out | apply below_alloc | apply pw_below_drewN | apply below_drew1 | refine below_set ?_ GE165.out | refine below_set ?_ GE190.out) | exact HB.out))); (case aF => exact (fun k_ hk => ⟨(Nat.le_trans (below_size (by repeat (first | (with_reducible first | exact HB.out | apply below_alloc | apply pw_below_drewN | apply below_drew1 | refine below_set ?_ GE165.out | refine below_set ?_ GE190.out) | exact HB.out))) hk), Kd.fresh' (Kd.R_lt (by (with_reducible repeat (first | apply Kd.R_alloc | apply Kd.R_drewN | apply Kd.R_drew)); exact HO_13.out)) k_ hk, Kd.fresh' (Kd.N_lt (by (with_reducible repeat (first | apply Kd.N_alloc | apply Kd.N_drewN | apply Kd.N_drew)); exact HO_50.out)) k_ hk, Kd.freshB (g := gb165) (o := .cells #[.int .i64 a0_0, .int .i64 a0_1] 23 (0, 0)) (by (with_reducible repeat (first | refine blk_drewN ?_ _ | refine blk_drew ?_ | refine blk_alloc ?_ _)); exact BK165.out) k_ hk, Kd.freshB (g := gb190) (o := .cells #[.slice A189_0 ((rd_T38 x10_1 x52_2).f0).length c189_0, .int .i64 ((rd_T38 x10_1 x52_2).f1)] 38 (0, 0)) (by (with_reducible repeat (first | refine blk_drewN ?_ _ | refine blk_drew ?_ | refine blk_alloc ?_ _)); exact BK190.out) k_ hk⟩)); (case aO => exact (by (with_reducible repeat (first | apply Kd.N_alloc | apply Kd.N_drewN | apply Kd.N_drew)); exact Kd.N_mono HO_14.out (fun _ hk => ⟨hk.1.1, ⟨hk.1.2.1, ⟨hk.1.2.2.1, ⟨hk.1.2.2.2.1, hk.1.2.2.2.2⟩⟩⟩⟩))); (case aS => exact (below_size (by repeat (first | (with_reducible first | exact HB.out | apply below_alloc | apply pw_below_drewN | apply below_drew1 | refine below_set ?_ GE165.out | refine below_set ?_ GE190.out) | exact HB.out)))); (case aL => have := LMc44.out; omega); intro v198 w52 ho hb hg hat; rw [← Ny197.out] at ho; have n0_ := Aside0.mk (Kd.R_over' (by (with_reducible repeat (first | apply Kd.R_alloc | apply Kd.R_drewN | apply Kd.R_drew)); exact HO_13.out) (Kd.N_typed (by (with_reducible repeat (first | apply Kd.N_alloc | apply Kd.N_drewN | apply Kd.N_drew)); exact HO_14.out)) (by decide) hg); have n1_ := Aside0.mk (Kd.N_afterv (ok := (fun k_ => (w.heap.size ≤ k_) ∧ some k_ ≠ (.slice (some ⟨go22, 0, none⟩) x13_3.length co22 : Value).ownBlock ∧ some k_ ≠ (.slice (some ⟨go43, 0, none⟩) t192.length co48 : Value).ownBlock ∧ k_ ≠ gb165 ∧ k_ ≠ gb190)) (by (with_reducible repeat (first | apply Kd.N_alloc | apply Kd.N_drewN | apply Kd.N_drew)); exact Kd.N_mono HO_50.out (fun _ hk => ⟨⟨hk.1.1, ⟨hk.1.2.1, ⟨hk.2, ⟨hk.1.2.2.2.1, hk.1.2.2.2.2⟩⟩⟩⟩, hk.1.2.2.1⟩)) hg hat); have nq189_ := Aside0.mk (Kd.V_afterv (ok := (fun k_ => (w.heap.size ≤ k_) ∧ some k_ ≠ (.slice (some ⟨go22, 0, none⟩) x13_3.length co22 : Value).ownBlock ∧ some k_ ≠ (.slice (some ⟨go43, 0, none⟩) t192.length co48 : Value).ownBlock ∧ k_ ≠ gb165 ∧ k_ ≠ gb190)) (by (with_reducible repeat (first | apply Kd.V_alloc | apply Kd.V_drewN | apply Kd.V_drew)); exact Kd.V_mono HQ189.out (fun _ hk => ⟨⟨hk.1.1, ⟨hk.1.2.1, ⟨hk.2, ⟨hk.1.2.2.2.1, hk.1.2.2.2.2⟩⟩⟩⟩, hk.1.2.2.1⟩)) hg hat); have n2_ := Aside0.mk (blk_grown (g := gb165) (o := .cells #[.int .i64 a0_0, .int .i64 a0_1] 23 (0, 0)) (by (with_reducible repeat (first | refine blk_drewN ?_ _ | refine blk_drew ?_ | refine blk_alloc ?_ _)); exact BK165.out) hg (Kd.N_ne HO_14.out BK165.out (by decide))); have n3_ := Aside0.mk (blk_grown (g := gb190) (o := .cells #[.slice A189_0 ((rd_T38 x10_1 x52_2).f0).length c189_0, .int .i64 ((rd_T38 x10_1 x52_2).f1)] 38 (0, 0)) (by (with_reducible repeat (first | refine blk_drewN ?_ _ | refine blk_drew ?_ | refine blk_alloc ?_ _)); exact BK190.out) hg (Kd.N_away HO_14.out (fun _ hk => hk.1.2.2.2.2))); have n4_ := Aside0.mk (hb); have n5_ := Aside0.mk (ho); clear HO_13; clear HO_50; clear HQ189; clear BK165; clear BK190; clear HB; clear HO_14; clear HO194; have HO_13 := n0_; have HO_50 := n1_; have HQ189 := nq189_; have BK165 := n2_; have BK190 := n3_; have HB := n4_; have HO199 := n5_; clear nq189_ n0_ n1_ n2_ n3_ n4_ n5_; clear ho hb hg hat))
                                              (try simp only [← hl13_3])
                                              go_roundg k3
                                              case measure => have := HK1.out; have := HK2.out; have := HK3.out; omega
                                              case rel => exact ⟨(x13_3), (y197), (wrap64 (x58_3 + 1)), (by first | rfl | (simp; done) | (simp [*]; done)), H', ⟨by have := HK1.out; have := HK2.out; have := HK3.out; omega⟩, ⟨by (try simp only [hl13_2]); (try simp only [hl13_3]); (with_reducible repeat (first | apply Kd.R_alloc | apply Kd.R_drewN | apply Kd.R_drew)); exact Kd.R_mono HO_13.out (fun _ hk => hk.1)⟩, ⟨by (try simp only [hl13_2]); (try simp only [hl13_3]); (with_reducible repeat (first | apply Kd.N_alloc | apply Kd.N_drewN | apply Kd.N_drew)); exact HO199.out⟩, ⟨by (try simp only [hl13_2]); (try simp only [hl13_3]); (with_reducible repeat (first | apply Kd.N_alloc | apply Kd.N_drewN | apply Kd.N_drew)); exact Kd.N_mono HO_50.out (fun _ hk => ⟨hk.1.1, ⟨hk.1.2.1, ⟨hk.2, ⟨hk.1.2.2.2.1, hk.1.2.2.2.2⟩⟩⟩⟩)⟩, ⟨by (try simp only [hl13_2]); (try simp only [hl13_3]); (with_reducible repeat (first | apply Kd.V_alloc | apply Kd.V_drewN | apply Kd.V_drew)); exact Kd.V_mono HQ189.out (fun _ hk => ⟨hk.1.1, ⟨hk.1.2.1, ⟨hk.2, ⟨hk.1.2.2.2.1, hk.1.2.2.2.2⟩⟩⟩⟩)⟩, ⟨by (try simp only [hl13_2]); (try simp only [hl13_3]); (with_reducible repeat (first | refine blk_drewN ?_ _ | refine blk_drew ?_ | refine blk_alloc ?_ _)); exact BK165.out⟩, ⟨by (try simp only [hl13_2]); (try simp only [hl13_3]); (with_reducible repeat (first | refine blk_drewN ?_ _ | refine blk_drew ?_ | refine blk_alloc ?_ _)); exact BK190.out⟩, ⟨by repeat (first | (with_reducible first | exact HB.out | apply below_alloc | apply pw_below_drewN | apply below_drew1 | refine below_set ?_ GE165.out | refine below_set ?_ GE190.out) | exact HB.out)⟩⟩
                                            · rw [if_neg c44] at H
                                              exact absurd H (by simp)
                                          · rw [if_neg c42] at H
                                            exact absurd H (by simp)
                                        · rw [if_neg c40] at H
                                          exact absurd H (by simp)
                                      · rw [if_neg c39] at H
                                        exact absurd H (by simp)
                                    · rw [if_neg c38] at H
                                      have c38b0 : decide (x58_3 < (x13_2.length : Int)) = false := decide_eq_false c38
                                      have c38m := c38b0
                                      first | rw [hl13_3] at c38m | rw [← hl13_3] at c38m
                                      clear c38
                                      have H' := Aside0.mk H
                                      clear H
                                      go_wp2
                                      (try simp only [← hl13_2, ← hl13_3])
                                      go_roundg k3
                                      case measure => have := HK1.out; have := HK2.out; have := HK3.out; omega
                                      case rel => exact ⟨(x13_3), (x14_3), (wrap64 (x52_2 + 1)), (by first | rfl | (simp; done) | (simp [*]; done)), H', ⟨by have := HK1.out; have := HK2.out; have := HK3.out; omega⟩, ⟨by (try simp only [hl13_2]); (try simp only [hl13_3]); (with_reducible repeat (first | apply Kd.R_alloc | apply Kd.R_drewN | apply Kd.R_drew)); exact HO_13.out⟩, ⟨by (try simp only [hl13_2]); (try simp only [hl13_3]); (with_reducible repeat (first | apply Kd.N_alloc | apply Kd.N_drewN | apply Kd.N_drew)); exact Kd.N_mono HO_14.out (fun _ hk => ⟨hk.1, ⟨hk.2.1, ⟨hk.2.2.1, hk.2.2.2.1⟩⟩⟩)⟩, ⟨by (try simp only [hl13_2]); (try simp only [hl13_3]); (with_reducible repeat (first | apply Kd.N_alloc | apply Kd.N_drewN | apply Kd.N_drew)); exact Kd.N_mono HO_50.out (fun _ hk => ⟨hk.1, ⟨hk.2.1, ⟨hk.2.2.1, hk.2.2.2.1⟩⟩⟩)⟩, ⟨by (try simp only [hl13_2]); (try simp only [hl13_3]); (with_reducible repeat (first | refine blk_drewN ?_ _ | refine blk_drew ?_ | refine blk_alloc ?_ _)); exact BK165.out⟩, ⟨by repeat (first | (with_reducible first | exact HB.out | apply below_alloc | apply pw_below_drewN | apply below_drew1 | refine below_set ?_ GE165.out | refine below_set ?_ GE190.out) | exact HB.out)⟩⟩
                              · rw [if_neg c34] at H
                                exact absurd H (by simp)
                            · rw [if_neg c33] at H
                              exact absurd H (by simp)
                          · rw [if_neg c32] at H
                            have c32b0 : decide (x52_2 < (x10_1.length : Int)) = false := decide_eq_false c32
                            clear c32
                            replace H := Option.bind_eq_some_iff.mp H
                            obtain ⟨t186, A530, H⟩ := H
                            replace H : (crowd_Shuffled.l0 k2 a1 t186 l2 (l2.length : Int) (wrap64 (x36_1 + 1)) a0_0 a0_1) = some (r1, r2) := H
                            have A53 := Aside0.mk A530
                            clear A530
                            have H' := Aside0.mk H
                            clear H
                            obtain ⟨Ao54, co54, eo54⟩ := Kd.N_slice HO_14.out
                            subst eo54
                            go_wp2_with (first | ((with_reducible refine gate_callee (f := 20) rfl ?_); refine goesL_ (some 84) rfl rfl Try.func20 (by kernel_rfl) rfl #[.slice Ao54 x14_2.length co54] rfl (by (try simp only [List.map_toArray, List.map_cons, List.map_nil]); first | done | rfl | (simp only [List.length_drop, List.length_take]; rfl)) ?_; (with_reducible refine (crowd_gathered.calls k2 (fun k_ => (w.heap.size ≤ k_) ∧ some k_ ≠ (.slice (some ⟨go22, 0, none⟩) x13_2.length co22 : Value).ownBlock ∧ some k_ ≠ (.slice Ao31 x10_1.length co31 : Value).ownBlock ∧ k_ ≠ gb165) (.slice Ao54 x14_2.length co54) x14_2 t186 w _ ?side1 ?side2 A53.out).mono ?_); (case side1 => repeat (first | (with_reducible first | exact HB.out | apply below_alloc | apply pw_below_drewN | apply below_drew1 | refine below_set ?_ GE165.out) | exact HB.out)); (case side2 => exact HO_14.out); rintro e w55 ⟨v187, rfl, ho0, hb, hkp⟩; refine ⟨_, rfl, ?_⟩; have n0_ := Aside0.mk (Kd.R_mono (ok' := fun k_ => (w.heap.size ≤ k_)) (Kd.R_keptB ((Kd.R_apart' HO_13.out (Kd.N_typed HO_14.out) (by decide))) hkp (fun k_ hk_ hs_ => (hk_.2) hs_)) (fun k_ hk_ => hk_.1.1)); have n1_ := Aside0.mk (Kd.N_mono (ok' := fun k_ => (w.heap.size ≤ k_) ∧ some k_ ≠ (.slice (some ⟨go22, 0, none⟩) x13_2.length co22 : Value).ownBlock ∧ k_ ≠ gb165 ∧ some k_ ≠ (v187 : Value).ownBlock) (Kd.N_keptB (HO_50.out) hkp (fun k_ hk_ hs_ => (hk_.2.2.1) hs_)) (fun k_ hk_ => ⟨hk_.1.1, hk_.1.2.1, hk_.1.2.2.2, fun e_ => Nat.not_le.2 hk_.2.2 (Kd.N_base ho0 k_ e_.symm)⟩)); have n2_ := Aside0.mk (blk_kept (by (with_reducible repeat (first | refine blk_drewN ?_ _ | refine blk_drew ?_ | refine blk_alloc ?_ _)); exact BK165.out) hkp (fun hs_ => (fun e_ => (Kd.N_ne HO_14.out BK165.out (by decide)) e_) hs_)); have n3_ := Aside0.mk (Kd.N_lower (Kd.N_mono (ok' := fun k_ => (w.heap.size ≤ k_) ∧ some k_ ≠ (.slice (some ⟨go22, 0, none⟩) x13_2.length co22 : Value).ownBlock ∧ some k_ ≠ (.slice Ao31 x10_1.length co31 : Value).ownBlock ∧ k_ ≠ gb165) ho0 (fun k_ hk_ => ⟨Or.elim hk_ (fun hs_ => hs_.1) (fun hn_ => (Nat.le_trans (below_size (by repeat (first | (with_reducible first | exact HB.out | apply below_alloc | apply pw_below_drewN | apply below_drew1 | refine below_set ?_ GE165.out) | exact HB.out))) hn_)), Or.elim hk_ (fun hs_ => hs_.2.1) (fun hn_ => (Kd.fresh' (Kd.R_lt (by (with_reducible repeat (first | apply Kd.R_alloc | apply Kd.R_drewN | apply Kd.R_drew)); exact HO_13.out)) k_ hn_)), Or.elim hk_ (fun hs_ => hs_.2.2.1) (fun hn_ => (Kd.fresh' (Kd.N_lt (by (with_reducible repeat (first | apply Kd.N_alloc | apply Kd.N_drewN | apply Kd.N_drew)); exact HO_50.out)) k_ hn_)), Or.elim hk_ (fun hs_ => hs_.2.2.2) (fun hn_ => (Kd.freshB (g := gb165) (o := .cells #[.int .i64 a0_0, .int .i64 a0_1] 23 (0, 0)) (by (with_reducible repeat (first | refine blk_drewN ?_ _ | refine blk_drew ?_ | refine blk_alloc ?_ _)); exact BK165.out) k_ hn_))⟩)) (below_size (by repeat (first | (with_reducible first | exact HB.out | apply below_alloc | apply pw_below_drewN | apply below_drew1 | refine below_set ?_ GE165.out) | exact HB.out)))); have n4_ := Aside0.mk (hb); clear HO_13; clear HO_50; clear BK165; clear HB; clear HO_14; have HO_13 := n0_; have HO_50 := n1_; have BK165 := n2_; have HO188 := n3_; have HB := n4_; clear n0_ n1_ n2_ n3_ n4_; (try clear hb); (try clear hkp); (try clear ho0)))
                            (try simp only [← hl13_2])
                            go_roundg k2
                            case measure => have := HK1.out; have := HK2.out; omega
                            case rel => exact ⟨(t186), (wrap64 (x36_1 + 1)), (by first | rfl | (simp; done) | (simp [*]; done)), H', ⟨by have := HK1.out; have := HK2.out; omega⟩, ⟨by (try simp only [hl13_2]); (with_reducible repeat (first | apply Kd.N_alloc | apply Kd.N_drewN | apply Kd.N_drew)); exact Kd.N_mono HO188.out (fun _ hk => ⟨hk.1, hk.2.2.2⟩)⟩, ⟨by (try simp only [hl13_2]); (with_reducible repeat (first | refine blk_drewN ?_ _ | refine blk_drew ?_ | refine blk_alloc ?_ _)); exact BK165.out⟩, ⟨by repeat (first | (with_reducible first | exact HB.out | apply below_alloc | apply pw_below_drewN | apply below_drew1 | refine below_set ?_ GE165.out) | exact HB.out)⟩⟩
                    · rw [if_neg c21] at H
                      exact absurd H (by simp)
                  · rw [if_neg c20] at H
                    exact absurd H (by simp)
                · rw [if_neg c18] at H
                  exact absurd H (by simp)
              · rw [if_neg c17] at H
                exact absurd H (by simp)
            · rw [if_neg c16] at H
              have c16b0 : decide (x36_1 < (l2.length : Int)) = false := decide_eq_false c16
              clear c16
              replace H := Option.bind_eq_some_iff.mp H
              obtain ⟨⟨t174, t177⟩, A560, H⟩ := H
              replace H : (some (t174, t177)) = some (r1, r2) := H
              have A56 := Aside0.mk A560
              clear A560
              simp only [Option.some.injEq, Prod.mk.injEq] at H
              obtain ⟨rfl, rfl⟩ := H
              obtain ⟨Ao57, co57, eo57⟩ := Kd.N_slice HO_10.out
              subst eo57
              go_wp2_with (first | ((with_reducible refine gate_callee (f := 21) rfl ?_); refine goesL_ (some 87) rfl rfl Try.func21 (by kernel_rfl) rfl #[.slice Ao57 x10_1.length co57] rfl (by (try simp only [List.map_toArray, List.map_cons, List.map_nil]); first | done | rfl | (simp only [List.length_drop, List.length_take]; rfl)) ?_; (with_reducible refine (dist_Make.calls k1 _ _ x10_1 t174 t177 _ ?side1 ?side2 A56.out).mono ?_); (case side1 => repeat (first | exact (Kd.N_reads' HO_10.out).2.2 | (with_reducible refine Kd.C_alloc ?_ _) | (with_reducible refine Kd.C_drewN ?_ _) | (with_reducible refine Kd.C_drew ?_))); (case side2 => exact (Kd.N_reads' HO_10.out).2.1); rintro e w58 ⟨v175, rfl, ho0, hb⟩; refine ⟨_, rfl, ?_⟩; have n0_ := Aside0.mk (Kd.N_elder' (by (with_reducible repeat (first | apply Kd.N_alloc | apply Kd.N_drewN | apply Kd.N_drew)); exact HO_10.out) (Kd.N_base ho0) hb); have n1_ := Aside0.mk (Kd.N_lower (Kd.N_mono (ok' := fun k_ => (w.heap.size ≤ k_) ∧ some k_ ≠ (.slice Ao57 x10_1.length co57 : Value).ownBlock ∧ k_ ≠ gb165) ho0 (fun k_ hk_ => ⟨(Nat.le_trans (below_size (by repeat (first | (with_reducible first | exact HB.out | apply below_alloc | apply pw_below_drewN | apply below_drew1 | refine below_set ?_ GE165.out) | exact HB.out))) hk_), (Kd.fresh' (Kd.N_lt (by (with_reducible repeat (first | apply Kd.N_alloc | apply Kd.N_drewN | apply Kd.N_drew)); exact HO_10.out)) k_ hk_), (Kd.freshB (g := gb165) (o := .cells #[.int .i64 a0_0, .int .i64 a0_1] 23 (0, 0)) (by (with_reducible repeat (first | refine blk_drewN ?_ _ | refine blk_drew ?_ | refine blk_alloc ?_ _)); exact BK165.out) k_ hk_)⟩)) (below_size (by repeat (first | (with_reducible first | exact HB.out | apply below_alloc | apply pw_below_drewN | apply below_drew1 | refine below_set ?_ GE165.out) | exact HB.out)))); have n2_ := Aside0.mk (blk_below (g := gb165) (o := .cells #[.int .i64 a0_0, .int .i64 a0_1] 23 (0, 0)) (by (with_reducible repeat (first | refine blk_drewN ?_ _ | refine blk_drew ?_ | refine blk_alloc ?_ _)); exact BK165.out) hb); have n3_ := Aside0.mk (below_step (by repeat (first | (with_reducible first | exact HB.out | apply below_alloc | apply pw_below_drewN | apply below_drew1 | refine below_set ?_ GE165.out) | exact HB.out)) hb); clear HO_10; clear BK165; clear HB; have HO_10 := n0_; have HO176 := n1_; have BK165 := n2_; have HB := n3_; clear n0_ n1_ n2_ n3_; (try clear hb); (try clear hb2); (try clear hk); (try clear hi); (try clear ho0)))
              go_ret2
              exact ⟨_, by first | rfl | (simp [errW_none, errW_some] <;> rfl) | (simp [*, errW_none, errW_some] <;> rfl), by (with_reducible repeat (first | apply Kd.N_alloc | apply Kd.N_drewN | apply Kd.N_drew)); exact Kd.N_mono HO176.out (fun _ hk => hk.1), by repeat (first | (with_reducible first | exact HB.out | apply below_alloc | apply pw_below_drewN | apply below_drew1 | refine below_set ?_ GE165.out) | exact HB.out)⟩
      · rw [if_neg c7] at H
        exact absurd H (by simp)
    · rw [if_neg c6] at H
      exact absurd H (by simp)
  · rw [if_neg c5] at H
    have c5b0 : (t167 == 0) = false := beq_eq_false_iff_ne.mpr c5
    have c5b1 : (t167 != 0) = true := bne_iff_ne.mpr c5
    simp only [Option.some.injEq, Prod.mk.injEq] at H
    obtain ⟨rfl, rfl⟩ := H
    go_enter Try.func7, Try.ntmps7
    go_wp2_with (first | ((with_reducible refine gate_dst (N := 3) rfl ?_); refine box_event ?hg (N := 3) ?hd (cs := #[.int .i64 a0_0, .int .i64 a0_1]) (t := 23) ?hr ?_; (case hd => rfl); (case hg => rfl); (case hr => first | (go_simp; done) | (go_simp; rfl)); intro gb165 hg w59 hbox hb; have n0_ := Aside0.mk (below_step (by repeat (first | (with_reducible first | exact HB.out | apply below_alloc | apply pw_below_drewN | apply below_drew1) | exact HB.out)) hb); have n1_ := Aside0.mk (hbox); have n2_ := Aside0.mk ((by rw [hg]; exact (below_size (by repeat (first | (with_reducible first | exact HB.out | apply below_alloc | apply pw_below_drewN | apply below_drew1) | exact HB.out))) : w.heap.size ≤ gb165)); have n3_ := Aside0.mk ((by rw [hg]; exact (below_size (by repeat (first | (with_reducible first | exact HB.out | apply below_alloc | apply pw_below_drewN | apply below_drew1) | exact HB.out))) : w.heap.size ≤ gb165)); clear HB; have HB := n0_; have BK165 := n1_; have GW165 := n2_; have GE165 := n3_; clear n0_ n1_ n2_ n3_; clear hb hbox hg; have hcz60_0 : w59.cell? ⟨gb165, 0, none⟩ = some (.int .i64 a0_0) := (blk_cell BK165.out 0).trans rfl; have hcz60_1 : w59.cell? ⟨gb165, 1, none⟩ = some (.int .i64 a0_1) := (blk_cell BK165.out 1).trans rfl; have hfz60_0 := blk_frozen BK165.out 0; have hfz60_1 := blk_frozen BK165.out 1) | ((with_reducible refine gate_callee (f := 17) rfl ?_); refine goesL_ (some 24) rfl rfl Try.func17 (by kernel_rfl) rfl #[.agg #[.int .i64 a0_0, .int .i64 a0_1], .int .i64 a1, .slice A2 l2.length c2] rfl (by (try simp only [List.map_toArray, List.map_cons, List.map_nil]); first | done | rfl | (simp only [List.length_drop, List.length_take]; rfl)) ?_; (with_reducible refine (crowd_people.calls k a0_0 a0_1 a1 _ _ l2 t166 t167 _ ?side1 ?side2 A4.out).mono ?_); (case side1 => repeat (first | exact (Kd.C_below HR2.out HB.out) | (with_reducible refine Kd.C_alloc ?_ _) | (with_reducible refine Kd.C_drewN ?_ _) | (with_reducible refine Kd.C_drew ?_))); (case side2 => exact HC2.out); rintro e w61 ⟨rfl, hb⟩; refine ⟨_, rfl, ?_⟩; have n0_ := Aside0.mk (blk_below (g := gb165) (o := .cells #[.int .i64 a0_0, .int .i64 a0_1] 23 (0, 0)) (by (with_reducible repeat (first | refine blk_drewN ?_ _ | refine blk_drew ?_ | refine blk_alloc ?_ _)); exact BK165.out) hb); have n1_ := Aside0.mk (below_step (by repeat (first | (with_reducible first | exact HB.out | apply below_alloc | apply pw_below_drewN | apply below_drew1 | refine below_set ?_ GE165.out) | exact HB.out)) hb); clear BK165; clear HB; have BK165 := n0_; have HB := n1_; clear n0_ n1_; (try clear hb); (try clear hb2); (try clear hk); (try clear hi)))
    go_ret2
    exact ⟨_, by first | rfl | (simp [errW_none, errW_some] <;> rfl) | (simp [*, errW_none, errW_some] <;> rfl), by first | exact Kd.S_nil _ _ _ _ _ | exact Kd.N_nil _ _ _ _ _ | exact Kd.V_nil _ _ _ _ _ | exact Kd.Q_nil _ _ _ _ _ | exact Kd.R_nil _ _ _ _ _, by repeat (first | (with_reducible first | exact HB.out | apply below_alloc | apply pw_below_drewN | apply below_drew1 | refine below_set ?_ GE165.out) | exact HB.out)⟩

end Go.Proofs.Ytfoolbcfpedhmaa.PB

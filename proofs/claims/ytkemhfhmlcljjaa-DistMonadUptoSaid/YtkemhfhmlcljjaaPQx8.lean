/- Functions of the translated program as Lean functions, and what their calls come to: written by this session's own program (wip/xprint.py) over the kit's print. Conditions stand in each theorem. -/
import Derived.Test.YtkemhfhmlcljjaaPQx0
import Derived.Test.YtkemhfhmlcljjaaPQx2
import Derived.Test.YtkemhfhmlcljjaaPQx3
import Derived.Test.YtkemhfhmlcljjaaPQx4
import Derived.Test.YtkemhfhmlcljjaaPQx6
import Derived.Test.YtkemhfhmlcljjaaPQx7
namespace Go.Proofs.Ytkemhfhmlcljjaa.PQ
open Go.RowKit Go.Proofs.YtkemhfhmlcljjaaW.PrintWords Go.Proofs.YtkemhfhmlcljjaaW.PrintLast Go.Proofs.YtkemhfhmlcljjaaW.PrintMore
attribute [local go_sem] max2_int min2_int max_two min_two max_three min_three max_four min_four   -- for this text's walks alone
set_option linter.unusedVariables false
set_option linter.unusedSimpArgs false

/-! ### dist_Bind: function 54 -/
mutual
def dist_Bind.l0 : Nat → List (S32) → List (S45) → List (List (S32)) → Int → List (S32) → Int → Int → Option ((List (S32)) × Int)
  | 0, _, _, _, _, _, _, _ => none
  | k + 1, x0, x1, x7, x8, x28, x29, x30 => if x30 < x29 then (if 0 ≤ x30 then (if x30 < (x28.length : Int) then ((slices_Clone_int_int.f ((rd_T32 x28 x30).f0)).bind fun t180 => ((plain_Bind_1.f k t180 x1).bind fun bt183 => (if bt183.2 = 0 then ((dist_Wrong.f k bt183.1).bind fun t187 => (dist_Bind.j1 k x0 x1 x7 x8 x30 bt183.1 t187 x28 x29 x30)) else (dist_Bind.j1 k x0 x1 x7 x8 x30 bt183.1 bt183.2 x28 x29 x30)))) else (none)) else (none)) else ((dist_total.f k x0).bind fun t191 => (if (wrap64 (x8 * t191)) > 1073741824 then (some (([] : List (S32)), 4)) else (dist_Bind.l1 k x7 x8 ([] : List (S32)) x0 (x0.length : Int) 0)))
def dist_Bind.j1 : Nat → List (S32) → List (S45) → List (List (S32)) → Int → Int → List (S32) → Int → List (S32) → Int → Int → Option ((List (S32)) × Int)
  | 0, _, _, _, _, _, _, _, _, _, _ => none
  | k + 1, x0, x1, x7, x8, x9, x11, x12, x28, x29, x30 => if x12 = 0 then (if 0 ≤ x9 then (if x9 < (x7.length : Int) then ((dist_total.f k x11).bind fun t189 => ((dist_gcd.f k x8 t189).bind fun t190 => (if t190 = 0 then (none) else (if (wrap64 ((wrap64 (Int.tdiv x8 t190)) * t189)) > 1073741824 then (some (([] : List (S32)), 4)) else (dist_Bind.l0 k x0 x1 (x7.set (x9 : Int).toNat x11) (wrap64 ((wrap64 (Int.tdiv x8 t190)) * t189)) x28 x29 (wrap64 (x30 + 1))))))) else (none)) else (none)) else (some (([] : List (S32)), x12))
def dist_Bind.l1 : Nat → List (List (S32)) → Int → List (S32) → List (S32) → Int → Int → Option ((List (S32)) × Int)
  | 0, _, _, _, _, _, _ => none
  | k + 1, x7, x8, x14, x71, x72, x73 => if x73 < x72 then (if 0 ≤ x73 then (if x73 < (x71.length : Int) then (if x73 < (x7.length : Int) then ((dist_total.f k (rd_L3 x7 x73)).bind fun t199 => (if t199 = 0 then (none) else (dist_Bind.l2 k x7 x8 x14 (wrap64 (Int.tdiv x8 t199)) x71 x72 x73 (rd_L3 x7 x73) ((rd_L3 x7 x73).length : Int) 0 ((rd_T32 x71 x73).f0) ((rd_T32 x71 x73).f1)))) else (none)) else (none)) else (none)) else ((dist_tidy.f k x14).bind fun bt192 => (some (bt192.1, bt192.2)))
def dist_Bind.l2 : Nat → List (List (S32)) → Int → List (S32) → Int → List (S32) → Int → Int → List (S32) → Int → Int → List Int → Int → Option ((List (S32)) × Int)
  | 0, _, _, _, _, _, _, _, _, _, _, _, _ => none
  | k + 1, x7, x8, x14, x17, x71, x72, x73, x88, x89, x90, x198000, x198001 => if x90 < x89 then (if 0 ≤ x90 then (if x90 < (x88.length : Int) then ((slices_Clone_int_int.f ((rd_T32 x88 x90).f0)).bind fun t203 => (if x14.length < 4398046511104 then (dist_Bind.l2 k x7 x8 (x14 ++ [(⟨t203, wrap64 ((wrap64 (x198001 * x17)) * ((rd_T32 x88 x90).f1))⟩ : S32)]) x17 x71 x72 x73 x88 x89 (wrap64 (x90 + 1)) x198000 x198001) else (none))) else (none)) else (none)) else (dist_Bind.l1 k x7 x8 x14 x71 x72 (wrap64 (x73 + 1)))
end
def dist_Bind.f (k : Nat) (l0 : List (S32)) (l1 : List (S45)) : Option ((List (S32)) × Int) := (dist_Wrong.f k l0).bind fun t174 => (if t174 = 0 then (if 0 ≤ (l0.length : Int) then (if ((l0.length : Int) : Int).toNat ≤ 11728124029610 then (dist_Bind.l0 k l0 l1 (List.replicate ((l0.length : Int) : Int).toNat []) 1 l0 (l0.length : Int) 0) else (none)) else (none)) else (some (([] : List (S32)), t174)))
theorem dist_Bind.mono_l : ∀ k, (∀ y0 y1 y2 y3 y4 y5 y6, LeO (dist_Bind.l0 k y0 y1 y2 y3 y4 y5 y6) (dist_Bind.l0 (k + 1) y0 y1 y2 y3 y4 y5 y6)) ∧ (∀ y0 y1 y2 y3 y4 y5 y6 y7 y8 y9, LeO (dist_Bind.j1 k y0 y1 y2 y3 y4 y5 y6 y7 y8 y9) (dist_Bind.j1 (k + 1) y0 y1 y2 y3 y4 y5 y6 y7 y8 y9)) ∧ (∀ y0 y1 y2 y3 y4 y5, LeO (dist_Bind.l1 k y0 y1 y2 y3 y4 y5) (dist_Bind.l1 (k + 1) y0 y1 y2 y3 y4 y5)) ∧ (∀ y0 y1 y2 y3 y4 y5 y6 y7 y8 y9 y10 y11, LeO (dist_Bind.l2 k y0 y1 y2 y3 y4 y5 y6 y7 y8 y9 y10 y11) (dist_Bind.l2 (k + 1) y0 y1 y2 y3 y4 y5 y6 y7 y8 y9 y10 y11))
  | 0 => ⟨fun _ _ _ _ _ _ _ r h => by simp [dist_Bind.l0] at h, fun _ _ _ _ _ _ _ _ _ _ r h => by simp [dist_Bind.j1] at h, fun _ _ _ _ _ _ r h => by simp [dist_Bind.l1] at h, fun _ _ _ _ _ _ _ _ _ _ _ _ r h => by simp [dist_Bind.l2] at h⟩
  | k + 1 => by
    obtain ⟨ih0, ih1, ih2, ih3⟩ := dist_Bind.mono_l k
    refine ⟨?_, ?_, ?_, ?_⟩
    · intro y0 y1 y2 y3 y4 y5 y6
      unfold dist_Bind.l0
      repeat' first
      | (with_reducible exact ih0 _ _ _ _ _ _ _)
      | (with_reducible exact ih1 _ _ _ _ _ _ _ _ _ _)
      | (with_reducible exact ih2 _ _ _ _ _ _)
      | (with_reducible exact ih3 _ _ _ _ _ _ _ _ _ _ _ _)
      | (with_reducible exact dist_Wrong.mono _ _)
      | (with_reducible exact dist_gcd.mono _ _ _)
      | (with_reducible exact dist_tidy.mono _ _)
      | (with_reducible exact dist_total.mono _ _)
      | (with_reducible exact plain_Bind_1.mono _ _ _)
      | (with_reducible exact LeO.refl _)
      | (with_reducible exact LeO.none _)
      | (with_reducible refine LeO.ite ?_ ?_)
      | (with_reducible refine LeO.bind ?_ (fun _ => ?_))
      | exact ih0 _ _ _ _ _ _ _
      | exact ih1 _ _ _ _ _ _ _ _ _ _
      | exact ih2 _ _ _ _ _ _
      | exact ih3 _ _ _ _ _ _ _ _ _ _ _ _
      | exact dist_Wrong.mono _ _
      | exact dist_gcd.mono _ _ _
      | exact dist_tidy.mono _ _
      | exact dist_total.mono _ _
      | exact plain_Bind_1.mono _ _ _
      | exact LeO.none _
      | refine LeO.ite ?_ ?_
      | refine LeO.bind ?_ (fun _ => ?_)
    · intro y0 y1 y2 y3 y4 y5 y6 y7 y8 y9
      unfold dist_Bind.j1
      repeat' first
      | (with_reducible exact ih0 _ _ _ _ _ _ _)
      | (with_reducible exact ih1 _ _ _ _ _ _ _ _ _ _)
      | (with_reducible exact ih2 _ _ _ _ _ _)
      | (with_reducible exact ih3 _ _ _ _ _ _ _ _ _ _ _ _)
      | (with_reducible exact dist_Wrong.mono _ _)
      | (with_reducible exact dist_gcd.mono _ _ _)
      | (with_reducible exact dist_tidy.mono _ _)
      | (with_reducible exact dist_total.mono _ _)
      | (with_reducible exact plain_Bind_1.mono _ _ _)
      | (with_reducible exact LeO.refl _)
      | (with_reducible exact LeO.none _)
      | (with_reducible refine LeO.ite ?_ ?_)
      | (with_reducible refine LeO.bind ?_ (fun _ => ?_))
      | exact ih0 _ _ _ _ _ _ _
      | exact ih1 _ _ _ _ _ _ _ _ _ _
      | exact ih2 _ _ _ _ _ _
      | exact ih3 _ _ _ _ _ _ _ _ _ _ _ _
      | exact dist_Wrong.mono _ _
      | exact dist_gcd.mono _ _ _
      | exact dist_tidy.mono _ _
      | exact dist_total.mono _ _
      | exact plain_Bind_1.mono _ _ _
      | exact LeO.none _
      | refine LeO.ite ?_ ?_
      | refine LeO.bind ?_ (fun _ => ?_)
    · intro y0 y1 y2 y3 y4 y5
      unfold dist_Bind.l1
      repeat' first
      | (with_reducible exact ih0 _ _ _ _ _ _ _)
      | (with_reducible exact ih1 _ _ _ _ _ _ _ _ _ _)
      | (with_reducible exact ih2 _ _ _ _ _ _)
      | (with_reducible exact ih3 _ _ _ _ _ _ _ _ _ _ _ _)
      | (with_reducible exact dist_Wrong.mono _ _)
      | (with_reducible exact dist_gcd.mono _ _ _)
      | (with_reducible exact dist_tidy.mono _ _)
      | (with_reducible exact dist_total.mono _ _)
      | (with_reducible exact plain_Bind_1.mono _ _ _)
      | (with_reducible exact LeO.refl _)
      | (with_reducible exact LeO.none _)
      | (with_reducible refine LeO.ite ?_ ?_)
      | (with_reducible refine LeO.bind ?_ (fun _ => ?_))
      | exact ih0 _ _ _ _ _ _ _
      | exact ih1 _ _ _ _ _ _ _ _ _ _
      | exact ih2 _ _ _ _ _ _
      | exact ih3 _ _ _ _ _ _ _ _ _ _ _ _
      | exact dist_Wrong.mono _ _
      | exact dist_gcd.mono _ _ _
      | exact dist_tidy.mono _ _
      | exact dist_total.mono _ _
      | exact plain_Bind_1.mono _ _ _
      | exact LeO.none _
      | refine LeO.ite ?_ ?_
      | refine LeO.bind ?_ (fun _ => ?_)
    · intro y0 y1 y2 y3 y4 y5 y6 y7 y8 y9 y10 y11
      unfold dist_Bind.l2
      repeat' first
      | (with_reducible exact ih0 _ _ _ _ _ _ _)
      | (with_reducible exact ih1 _ _ _ _ _ _ _ _ _ _)
      | (with_reducible exact ih2 _ _ _ _ _ _)
      | (with_reducible exact ih3 _ _ _ _ _ _ _ _ _ _ _ _)
      | (with_reducible exact dist_Wrong.mono _ _)
      | (with_reducible exact dist_gcd.mono _ _ _)
      | (with_reducible exact dist_tidy.mono _ _)
      | (with_reducible exact dist_total.mono _ _)
      | (with_reducible exact plain_Bind_1.mono _ _ _)
      | (with_reducible exact LeO.refl _)
      | (with_reducible exact LeO.none _)
      | (with_reducible refine LeO.ite ?_ ?_)
      | (with_reducible refine LeO.bind ?_ (fun _ => ?_))
      | exact ih0 _ _ _ _ _ _ _
      | exact ih1 _ _ _ _ _ _ _ _ _ _
      | exact ih2 _ _ _ _ _ _
      | exact ih3 _ _ _ _ _ _ _ _ _ _ _ _
      | exact dist_Wrong.mono _ _
      | exact dist_gcd.mono _ _ _
      | exact dist_tidy.mono _ _
      | exact dist_total.mono _ _
      | exact plain_Bind_1.mono _ _ _
      | exact LeO.none _
      | refine LeO.ite ?_ ?_
      | refine LeO.bind ?_ (fun _ => ?_)
theorem dist_Bind.mono : ∀ a0 a1 k, LeO (dist_Bind.f k a0 a1) (dist_Bind.f (k + 1) a0 a1) := by
  intro a0 a1 k
  obtain ⟨ih0, ih1, ih2, ih3⟩ := dist_Bind.mono_l k
  unfold dist_Bind.f
  repeat' first
      | (with_reducible exact ih0 _ _ _ _ _ _ _)
      | (with_reducible exact ih1 _ _ _ _ _ _ _ _ _ _)
      | (with_reducible exact ih2 _ _ _ _ _ _)
      | (with_reducible exact ih3 _ _ _ _ _ _ _ _ _ _ _ _)
      | (with_reducible exact dist_Wrong.mono _ _)
      | (with_reducible exact dist_gcd.mono _ _ _)
      | (with_reducible exact dist_tidy.mono _ _)
      | (with_reducible exact dist_total.mono _ _)
      | (with_reducible exact plain_Bind_1.mono _ _ _)
      | (with_reducible exact LeO.refl _)
      | (with_reducible exact LeO.none _)
      | (with_reducible refine LeO.ite ?_ ?_)
      | (with_reducible refine LeO.bind ?_ (fun _ => ?_))
      | exact ih0 _ _ _ _ _ _ _
      | exact ih1 _ _ _ _ _ _ _ _ _ _
      | exact ih2 _ _ _ _ _ _
      | exact ih3 _ _ _ _ _ _ _ _ _ _ _ _
      | exact dist_Wrong.mono _ _
      | exact dist_gcd.mono _ _ _
      | exact dist_tidy.mono _ _
      | exact dist_total.mono _ _
      | exact plain_Bind_1.mono _ _ _
      | exact LeO.none _
      | refine LeO.ite ?_ ?_
      | refine LeO.bind ?_ (fun _ => ?_)
def dist_Bind.T30 : Bool × List (List Nat × List Nat) := (true, [([], []), ([], []), ([1], [1]), ([2], [2]), ([], []), ([4], [4]), ([], []), ([5, 6], [5, 6]), ([], []), ([8], [8]), ([7, 9], [7, 9]), ([3, 10], [3, 10]), ([11], [11]), ([0, 12, 3], [0, 12]), ([13, 13, 0, 1, 2, 3, 4, 5, 6, 7, 8, 9, 10, 11, 12, 13], [0, 13])])
def dist_Bind.B30 : List Nat := [0, 0, 2, 6, 0, 16, 0, 112, 0, 256, 1008, 2046, 4094, 8191, 16383]
theorem dist_Bind.tab30 : rtab .any (opsOf Try.f54 30) = dist_Bind.T30 := by kernel_rfl
theorem dist_Bind.bits30 : waitsOk dist_Bind.T30.2 dist_Bind.B30 = true := by kernel_rfl
set_option maxHeartbeats 8000000 in
set_option maxRecDepth 100000 in
theorem dist_Bind.calls (k : Nat) (A0 : Option Addr) (c0 : Nat) (l0 : List (S32)) (P1_ : Nat → Prop) (A1 : Option Addr) (c1 : Nat) (l1 : List (S45)) (r1 : List (S32)) (r2 : Int) (w : World) (hr0 : Kd.C k32 w A0 l0.length l0) (hc0 : l0.length ≤ c0) (hs1 : Kd.V k45 45 w w.heap.size (fun k_ => P1_ k_) (.slice A1 l1.length c1) l1) (h : dist_Bind.f k l0 l1 = some (r1, r2)) (gcap_ : Nat) (hcap_ : w.cell? ⟨gcap_, 0, none⟩ = some (.slice A1 l1.length c1)) :
    Calls Try.prog 54 #[.slice A0 l0.length c0, .func (.func 55) #[] #[.pointer (some ⟨gcap_, 0, none⟩)]] w fun e w' => ∃ v0_ : Value, e = .returned (.tuple #[v0_, .int .i64 r2]) ∧ Kd.N k32 32 w' w.heap.size (fun k_ => (w.heap.size ≤ k_)) v0_ r1 ∧ Below w.heap.size w w' := by
  have hu32 := Try.underlying32
  have HR0 := Aside0.mk hr0
  have HC0 := Aside0.mk hc0
  clear hr0 hc0
  have HO1 := Aside0.mk (show Kd.V k45 45 w w.heap.size (fun k_ => (P1_ k_ ∨ w.heap.size ≤ k_)) (.slice A1 l1.length c1) l1 from Kd.V_mono hs1 (fun k_ hk => .inl hk))
  have HB := Aside0.mk (Below.refl w.heap.size w)
  have H : ((dist_Wrong.f k l0).bind fun t174 => (if t174 = 0 then (if 0 ≤ (l0.length : Int) then (if ((l0.length : Int) : Int).toNat ≤ 11728124029610 then (dist_Bind.l0 k l0 l1 (List.replicate ((l0.length : Int) : Int).toNat []) 1 l0 (l0.length : Int) 0) else (none)) else (none)) else (some (([] : List (S32)), t174)))) = some (r1, r2) := h
  clear h
  replace H := Option.bind_eq_some_iff.mp H
  obtain ⟨t174, A30, H⟩ := H
  replace H : (if t174 = 0 then (if 0 ≤ (l0.length : Int) then (if ((l0.length : Int) : Int).toNat ≤ 11728124029610 then (dist_Bind.l0 k l0 l1 (List.replicate ((l0.length : Int) : Int).toNat []) 1 l0 (l0.length : Int) 0) else (none)) else (none)) else (some (([] : List (S32)), t174))) = some (r1, r2) := H
  have A3 := Aside0.mk A30
  clear A30
  by_cases c4 : t174 = 0
  · rw [if_pos c4] at H
    have c4b0 : (t174 == 0) = true := beq_iff_eq.mpr c4
    have c4b1 : (t174 != 0) = false := bne_eq_false_iff_eq.mpr c4
    clear c4
    by_cases c5 : 0 ≤ (l0.length : Int)
    · rw [if_pos c5] at H
      have c5b0 := eq_true c5
      have c5b1 : decide (0 ≤ (l0.length : Int)) = true := decide_eq_true c5
      clear c5
      by_cases c6 : ((l0.length : Int) : Int).toNat ≤ 11728124029610
      · rw [if_pos c6] at H
        have c6b0 := eq_true c6
        have c6b1 : decide (((l0.length : Int) : Int).toNat ≤ 11728124029610) = true := decide_eq_true c6
        clear c6
        obtain ⟨y175, hy175⟩ : ∃ y_ : List (List (S32)), y_ = (List.replicate ((l0.length : Int) : Int).toNat []) := ⟨_, rfl⟩
        replace H : (dist_Bind.l0 k l0 l1 y175 1 l0 (l0.length : Int) 0) = some (r1, r2) := by first | (rw [hy175]; with_reducible exact H) | (have H2_ := (Option.bind_some _ _).symm.trans H; rw [hy175]; with_reducible exact H2_) | (have H2_ := (Option.bind_some _ _).symm.trans H; with_reducible exact H2_) | with_reducible exact H | (rw [hy175]; exact H) | exact H
        have Ny175 := Aside0.mk hy175
        clear hy175
        have H' := Aside0.mk H
        clear H
        go_enter Try.func54, Try.ntmps54
        go_wp2_with (first | ((with_reducible refine gate_callee (f := 13) rfl ?_); refine goesL_ (some 21) rfl rfl Try.func13 (by kernel_rfl) rfl #[.slice A0 l0.length c0] rfl (by (try simp only [List.map_toArray, List.map_cons, List.map_nil]); first | done | rfl | (simp only [List.length_drop, List.length_take]; rfl)) ?_; (with_reducible refine (dist_Wrong.calls k _ _ l0 t174 _ ?side1 ?side2 A3.out).mono ?_); (case side1 => repeat (first | exact HR0.out | (with_reducible refine Kd.C_alloc ?_ _) | (with_reducible refine Kd.C_drewN ?_ _) | (with_reducible refine Kd.C_drew ?_))); (case side2 => exact HC0.out); rintro e w7 ⟨rfl, hb⟩; refine ⟨_, rfl, ?_⟩; have n0_ := Aside0.mk (Kd.V_below (by (with_reducible repeat (first | apply Kd.V_alloc | apply Kd.V_drewN | apply Kd.V_drew)); exact HO1.out) hb); have n1_ := Aside0.mk (below_step (by repeat (first | (with_reducible first | exact HB.out | apply below_alloc | apply pw_below_drewN | apply below_drew1) | exact HB.out)) hb); clear HO1; clear HB; have HO1 := n0_; have HB := n1_; clear n0_ n1_; (try clear hb); (try clear hb2); (try clear hk); (try clear hi)) | ((with_reducible refine gate_dst (N := 27) rfl ?_); refine Kd.N_make (Kd.slice 32 k32) _ 23 rfl (N' := 27) rfl 78 _ _ rfl (l0.length : Int) rfl rfl Try.underlying78 (.slice none 0 0) 24 info23 rfl (by decide) (by omega) [] (ok := fun k_ => w7.heap.size ≤ k_) (okp := fun _ => False) (Kd.FK_slice_mk (Nat.le_refl _) (Kd.F_nil _ _ _)) (fun _ hk => hk.elim) (Nat.le_refl _) (of_decide_eq_true (by first | (with_reducible assumption) | assumption)) (Nat.le_trans (Nat.mul_le_mul_right _ (of_decide_eq_true (by first | (with_reducible assumption) | assumption) : (l0.length : Int).toNat ≤ 11728124029610)) (by omega)) (Below.refl _ _) (Nat.le_refl _) ?_; intro v176 w8 ho9 hb hg_ hnew_; clear hg_ hnew_; (first | rw [← Ny175.out] at ho9 | (simp only [Int.reduceToNat] at ho9; rw [← Ny175.out] at ho9)); have n0_ := Aside0.mk (Kd.V_elder' (by (with_reducible repeat (first | apply Kd.V_alloc | apply Kd.V_drewN | apply Kd.V_drew)); exact HO1.out) (Kd.N_base ho9) hb); have n1_ := Aside0.mk (Kd.N_lower (Kd.N_mono (ok' := fun k_ => (P1_ k_ ∨ w.heap.size ≤ k_)) ho9 (fun k_ hk_ => (.inr (Nat.le_trans (below_size (by repeat (first | (with_reducible first | exact HB.out | apply below_alloc | apply pw_below_drewN | apply below_drew1) | exact HB.out))) hk_)))) (below_size (by repeat (first | (with_reducible first | exact HB.out | apply below_alloc | apply pw_below_drewN | apply below_drew1) | exact HB.out)))); have n2_ := Aside0.mk (below_step (by repeat (first | (with_reducible first | exact HB.out | apply below_alloc | apply pw_below_drewN | apply below_drew1) | exact HB.out)) hb); clear HO1; clear HB; have HO1 := n0_; have HO177 := n1_; have HB := n2_; clear n0_ n1_ n2_; clear hb ho9))
        go_loopg [8, 30] k (fun kq v8 v30 w' => ∃ (x7_1 : List (List (S32))) (x8_1 : Int) (x30_1 : Int), v8 = .int .i64 x8_1 ∧ v30 = .int .i64 x30_1 ∧ Aside0 (dist_Bind.l0 kq l0 l1 x7_1 x8_1 l0 (l0.length : Int) x30_1 = some (r1, r2)) ∧ Aside0 (kq ≤ k) ∧ Aside0 (Kd.V k45 45 w' w.heap.size (fun k_ => (P1_ k_ ∨ w.heap.size ≤ k_) ∧ some k_ ≠ (v176 : Value).ownBlock) (.slice A1 l1.length c1) l1) ∧ Aside0 (Kd.N (Kd.slice 32 k32) 23 w' w.heap.size (fun k_ => (P1_ k_ ∨ w.heap.size ≤ k_)) v176 x7_1) ∧ Aside0 (Below w.heap.size w w'))
        case atStart => exact ⟨(y175), (1), (0), (by first | rfl | (simp; done) | (simp [*]; done)), (by first | rfl | (simp; done) | (simp [*]; done)), H', ⟨Nat.le_refl _⟩, ⟨by (with_reducible repeat (first | apply Kd.V_alloc | apply Kd.V_drewN | apply Kd.V_drew)); exact HO1.out⟩, ⟨by (with_reducible repeat (first | apply Kd.N_alloc | apply Kd.N_drewN | apply Kd.N_drew)); exact HO177.out⟩, ⟨by repeat (first | (with_reducible first | exact HB.out | apply below_alloc | apply pw_below_drewN | apply below_drew1) | exact HB.out)⟩⟩
        case round =>
          clear H'
          try clear c1
          try clear p2
          try clear c4
          try clear c4b0
          try clear c4b1
          try clear c5
          try clear c5b0
          try clear c5b1
          try clear c6
          try clear c6b0
          try clear c6b1
          obtain ⟨x7_1, x8_1, x30_1, rfl, rfl, HA, HK1, HO_1, HO_7, HB⟩ := hrel
          cases gk with
          | zero => exact absurd HA.out (by simp [dist_Bind.l0])
          | succ k1 =>
            have H := HA.out
            clear HA
            simp only [dist_Bind.l0] at H
            by_cases c10 : x30_1 < (l0.length : Int)
            · rw [if_pos c10] at H
              have c10b0 : decide (x30_1 < (l0.length : Int)) = true := decide_eq_true c10
              clear c10
              by_cases c11 : 0 ≤ x30_1
              · rw [if_pos c11] at H
                have c11b0 : decide (0 ≤ x30_1) = true := decide_eq_true c11
                clear c11
                by_cases c12 : x30_1 < (l0.length : Int)
                · rw [if_pos c12] at H
                  have c12b0 : decide (x30_1 < (l0.length : Int)) = true := decide_eq_true c12
                  clear c12
                  replace H := Option.bind_eq_some_iff.mp H
                  obtain ⟨t180, A130, H⟩ := H
                  replace H : ((plain_Bind_1.f k1 t180 l1).bind fun bt183 => (if bt183.2 = 0 then ((dist_Wrong.f k1 bt183.1).bind fun t187 => (dist_Bind.j1 k1 l0 l1 x7_1 x8_1 x30_1 bt183.1 t187 l0 (l0.length : Int) x30_1)) else (dist_Bind.j1 k1 l0 l1 x7_1 x8_1 x30_1 bt183.1 bt183.2 l0 (l0.length : Int) x30_1))) = some (r1, r2) := H
                  have A13 := Aside0.mk A130
                  clear A130
                  replace H := Option.bind_eq_some_iff.mp H
                  obtain ⟨⟨t183, t186⟩, A140, H⟩ := H
                  replace H : (if t186 = 0 then ((dist_Wrong.f k1 t183).bind fun t187 => (dist_Bind.j1 k1 l0 l1 x7_1 x8_1 x30_1 t183 t187 l0 (l0.length : Int) x30_1)) else (dist_Bind.j1 k1 l0 l1 x7_1 x8_1 x30_1 t183 t186 l0 (l0.length : Int) x30_1)) = some (r1, r2) := H
                  have A14 := Aside0.mk A140
                  clear A140
                  have HC15 := Aside0.mk H
                  clear H
                  have p178 : 0 ≤ (x30_1 : Int) := of_decide_eq_true (by first | (with_reducible assumption) | assumption)
                  have q178 : x30_1 < (l0.length : Int) := of_decide_eq_true (by first | (with_reducible assumption) | assumption)
                  obtain ⟨ad178, A178_0, c178_0, e178, hx178_0, hx178_1, hl178_0, hi178_0⟩ := at_T32 HR0.out x30_1 p178 q178
                  cases e178
                  replace hx178_0 := (HB.out.cell (World.block_lt_of_cell? w _ hx178_0)).trans hx178_0
                  replace hx178_1 := (HB.out.cell (World.block_lt_of_cell? w _ hx178_1)).trans hx178_1
                  have HR178_0 := Aside0.mk hi178_0
                  have HC178_0 := Aside0.mk hl178_0
                  clear hi178_0 hl178_0
                  replace p178 := eq_true p178
                  replace q178 := eq_true q178
                  go_upto_if 44 with (first | ((with_reducible refine gate_dst (N := 10) rfl ?_); refine box_event ?hg (N := 10) ?hd (cs := #[.slice none 0 0, .int .i64 0]) (t := 32) ?hr ?_; (case hd => rfl); (case hg => rfl); (case hr => first | (go_simp; done) | (go_simp; rfl)); intro gb179 hg w16 hbox hb; have n0_ := Aside0.mk (Kd.V_below (Kd.V_elderB (by (with_reducible repeat (first | apply Kd.V_alloc | apply Kd.V_drewN | apply Kd.V_drew)); exact HO_1.out) gb179 (Nat.le_of_eq hg.symm)) hb); have n1_ := Aside0.mk (Kd.N_below (Kd.N_elderB (by (with_reducible repeat (first | apply Kd.N_alloc | apply Kd.N_drewN | apply Kd.N_drew)); exact HO_7.out) gb179 (Nat.le_of_eq hg.symm)) hb); have n2_ := Aside0.mk (below_step (by repeat (first | (with_reducible first | exact HB.out | apply below_alloc | apply pw_below_drewN | apply below_drew1) | exact HB.out)) hb); have n3_ := Aside0.mk (hbox); have n4_ := Aside0.mk ((by rw [hg]; exact (below_size (by repeat (first | (with_reducible first | exact HB.out | apply below_alloc | apply pw_below_drewN | apply below_drew1) | exact HB.out))) : w.heap.size ≤ gb179)); have n5_ := Aside0.mk ((by rw [hg]; exact (below_size (by repeat (first | (with_reducible first | exact HB.out | apply below_alloc | apply pw_below_drewN | apply below_drew1) | exact HB.out))) : w.heap.size ≤ gb179)); clear HO_1; clear HO_7; clear HB; have HO_1 := n0_; have HO_7 := n1_; have HB := n2_; have BK179 := n3_; have GW179 := n4_; have GE179 := n5_; clear n0_ n1_ n2_ n3_ n4_ n5_; clear hb hbox hg; have hcz17_0 : w16.cell? ⟨gb179, 0, none⟩ = some (.slice none 0 0) := (blk_cell BK179.out 0).trans rfl; have hcz17_1 : w16.cell? ⟨gb179, 1, none⟩ = some (.int .i64 0) := (blk_cell BK179.out 1).trans rfl; have hfz17_0 := blk_frozen BK179.out 0; have hfz17_1 := blk_frozen BK179.out 1) | ((with_reducible refine gate_callee (f := 40) rfl ?_); refine goesL_ (some 39) rfl rfl Try.func40 (by kernel_rfl) rfl #[.slice A178_0 ((rd_T32 l0 x30_1).f0).length c178_0] rfl (by (try simp only [List.map_toArray, List.map_cons, List.map_nil]); first | done | rfl | (simp only [List.length_drop, List.length_take]; rfl)) ?_; (with_reducible refine (slices_Clone_int_int.calls _ _ ((rd_T32 l0 x30_1).f0) t180 _ ?side1 ?side2 A13.out).mono ?_); (case side1 => exact Kd.C_below HR178_0.out (by repeat (first | (with_reducible first | exact HB.out | apply below_alloc | apply pw_below_drewN | apply below_drew1 | refine below_set ?_ GE179.out) | exact HB.out))); (case side2 => exact HC178_0.out); rintro e w18 ⟨v181, rfl, ho0, hb⟩; refine ⟨_, rfl, ?_⟩; have n0_ := Aside0.mk (Kd.V_elder' (by (with_reducible repeat (first | apply Kd.V_alloc | apply Kd.V_drewN | apply Kd.V_drew)); exact (Kd.V_mono (Kd.V_far (p := ⟨gb179, 1, none⟩) (Kd.V_far (p := ⟨gb179, 0, none⟩) (Kd.V_mono HO_1.out (fun k_ hk => (⟨hk, hk.2⟩ : _ ∧ k_ ≠ gb179))) (fun _ hk => hk.2) (.slice A178_0 ((rd_T32 l0 x30_1).f0).length c178_0)) (fun _ hk => hk.2) (.int .i64 ((rd_T32 l0 x30_1).f1))) (fun _ h_ => h_.1))) (Kd.R_base ho0) hb); have n1_ := Aside0.mk (Kd.N_elder' (by (with_reducible repeat (first | apply Kd.N_alloc | apply Kd.N_drewN | apply Kd.N_drew)); exact (Kd.N_mono (Kd.N_far (p := ⟨gb179, 1, none⟩) (Kd.N_far (p := ⟨gb179, 0, none⟩) (Kd.N_mono HO_7.out (fun k_ hk => (⟨hk, hk.2⟩ : _ ∧ k_ ≠ gb179))) (fun _ hk => hk.2) (.slice A178_0 ((rd_T32 l0 x30_1).f0).length c178_0)) (fun _ hk => hk.2) (.int .i64 ((rd_T32 l0 x30_1).f1))) (fun _ h_ => h_.1))) (Kd.R_base ho0) hb); have n2_ := Aside0.mk (Kd.R_lower (Kd.R_newM (M := fun k_ => (w.heap.size ≤ k_)) ho0 (below_size (by repeat (first | (with_reducible first | exact HB.out | apply below_alloc | apply pw_below_drewN | apply below_drew1 | refine below_set ?_ GE179.out) | exact HB.out))) (fun k_ h_ => h_)) (below_size (by repeat (first | (with_reducible first | exact HB.out | apply below_alloc | apply pw_below_drewN | apply below_drew1 | refine below_set ?_ GE179.out) | exact HB.out)))); have n3_ := Aside0.mk (blk_below (g := gb179) (o := .cells #[.slice A178_0 ((rd_T32 l0 x30_1).f0).length c178_0, .int .i64 ((rd_T32 l0 x30_1).f1)] 32 (0, 0)) (by (with_reducible repeat (first | refine blk_drewN ?_ _ | refine blk_drew ?_ | refine blk_alloc ?_ _)); refine blk_put (cs := #[.slice A178_0 ((rd_T32 l0 x30_1).f0).length c178_0, .int .i64 0]) ?_ 1 _ rfl; (with_reducible repeat (first | refine blk_drewN ?_ _ | refine blk_drew ?_ | refine blk_alloc ?_ _)); refine blk_put (cs := #[.slice none 0 0, .int .i64 0]) ?_ 0 _ rfl; (with_reducible repeat (first | refine blk_drewN ?_ _ | refine blk_drew ?_ | refine blk_alloc ?_ _)); exact BK179.out) hb); have n4_ := Aside0.mk (below_step (by repeat (first | (with_reducible first | exact HB.out | apply below_alloc | apply pw_below_drewN | apply below_drew1 | refine below_set ?_ GE179.out) | exact HB.out)) hb); clear HO_1; clear HO_7; clear BK179; clear HB; have HO_1 := n0_; have HO_7 := n1_; have HO182 := n2_; have BK179 := n3_; have HB := n4_; clear n0_ n1_ n2_ n3_ n4_; (try clear hb); (try clear hb2); (try clear hk); (try clear hi); (try clear ho0); obtain ⟨Ao19, co19, eo19⟩ := Kd.R_slice HO182.out; subst eo19) | ((with_reducible refine gate_dst (N := 40) rfl ?_); refine goesLVC_ (some 40) rfl rfl Try.func55 (by kernel_rfl) rfl #[.slice Ao19 t180.length co19, .pointer (some ⟨gcap_, 0, none⟩)] #[.pointer (some ⟨gcap_, 0, none⟩)] rfl (by first | rfl | (simp [Act.eval]; done)) (by first | rfl | (simp [Act.eval]; done) | (simp only [List.map_toArray, List.map_cons, List.map_nil, List.append_toArray, List.cons_append, List.nil_append]; rfl)) ?_; (with_reducible refine (plain_Bind_1.calls k1 (fun k_ => some k_ = (.slice Ao19 t180.length co19 : Value).ownBlock) _ _ t180 (fun k_ => ((((P1_ k_ ∨ w.heap.size ≤ k_) ∧ some k_ ≠ (v176 : Value).ownBlock) ∧ k_ ≠ gb179) ∧ some k_ ≠ (.slice Ao19 t180.length co19 : Value).ownBlock)) A1 c1 l1 t183 t186 _ ?side1 ?side2 A14.out gcap_ ?cap_).mono ?_); (case cap_ => exact ((show Below w.heap.size w _ from (by repeat (first | (with_reducible first | exact HB.out | apply below_alloc | apply pw_below_drewN | apply below_drew1 | refine below_set ?_ GE179.out) | exact HB.out))).cell (World.block_lt_of_cell? w _ hcap_)).trans hcap_); (case side1 => exact Kd.R_V (Kd.R_tight rfl (Kd.R_types (Kd.R_apart' (HO182.out) (Kd.N_typed HO_7.out) (by decide)) BK179.out (by decide)))); (case side2 => exact HO_1.out); rintro e w20 ⟨v184, rfl, ho0, hb⟩; refine ⟨_, rfl, ?_⟩; have n0_ := Aside0.mk (Kd.V_below (by (with_reducible repeat (first | apply Kd.V_alloc | apply Kd.V_drewN | apply Kd.V_drew)); exact HO_1.out) hb); have n1_ := Aside0.mk (Kd.N_below (by (with_reducible repeat (first | apply Kd.N_alloc | apply Kd.N_drewN | apply Kd.N_drew)); exact HO_7.out) hb); have n2_ := Aside0.mk (Kd.R_below (by (with_reducible repeat (first | apply Kd.R_alloc | apply Kd.R_drewN | apply Kd.R_drew)); exact HO182.out) hb); have n3_ := Aside0.mk (Kd.V_lower (Kd.V_mono (ok' := fun k_ => (P1_ k_ ∨ w.heap.size ≤ k_) ∧ some k_ ≠ (v176 : Value).ownBlock ∧ k_ ≠ gb179) ho0 (fun k_ hk_ => ⟨Or.elim hk_ (fun hs_ => Or.elim hs_ (fun hs_ => (.inr (((Kd.R_types (Kd.R_apart' (HO182.out) (Kd.N_typed HO_7.out) (by decide)) BK179.out (by decide)).1 k_ hs_.symm).1.1.1))) (fun hs_ => hs_.1.1.1)) (fun hn_ => (.inr (Nat.le_trans (below_size (by repeat (first | (with_reducible first | exact HB.out | apply below_alloc | apply pw_below_drewN | apply below_drew1 | refine below_set ?_ GE179.out) | exact HB.out))) hn_))), Or.elim hk_ (fun hs_ => Or.elim hs_ (fun hs_ => ((Kd.R_types (Kd.R_apart' (HO182.out) (Kd.N_typed HO_7.out) (by decide)) BK179.out (by decide)).1 k_ hs_.symm).1.2) (fun hs_ => hs_.1.1.2)) (fun hn_ => (Kd.fresh' (Kd.N_lt (by (with_reducible repeat (first | apply Kd.N_alloc | apply Kd.N_drewN | apply Kd.N_drew)); exact HO_7.out)) k_ hn_)), Or.elim hk_ (fun hs_ => Or.elim hs_ (fun hs_ => ((Kd.R_types (Kd.R_apart' (HO182.out) (Kd.N_typed HO_7.out) (by decide)) BK179.out (by decide)).1 k_ hs_.symm).2) (fun hs_ => hs_.1.2)) (fun hn_ => (Kd.freshB (g := gb179) (o := .cells #[.slice A178_0 ((rd_T32 l0 x30_1).f0).length c178_0, .int .i64 ((rd_T32 l0 x30_1).f1)] 32 (0, 0)) (by (with_reducible repeat (first | refine blk_drewN ?_ _ | refine blk_drew ?_ | refine blk_alloc ?_ _)); exact BK179.out) k_ hn_))⟩)) (below_size (by repeat (first | (with_reducible first | exact HB.out | apply below_alloc | apply pw_below_drewN | apply below_drew1 | refine below_set ?_ GE179.out) | exact HB.out)))); have n4_ := Aside0.mk (blk_below (g := gb179) (o := .cells #[.slice A178_0 ((rd_T32 l0 x30_1).f0).length c178_0, .int .i64 ((rd_T32 l0 x30_1).f1)] 32 (0, 0)) (by (with_reducible repeat (first | refine blk_drewN ?_ _ | refine blk_drew ?_ | refine blk_alloc ?_ _)); exact BK179.out) hb); have n5_ := Aside0.mk (below_step (by repeat (first | (with_reducible first | exact HB.out | apply below_alloc | apply pw_below_drewN | apply below_drew1 | refine below_set ?_ GE179.out) | exact HB.out)) hb); clear HO_1; clear HO_7; clear HO182; clear BK179; clear HB; have HO_1 := n0_; have HO_7 := n1_; have HO182 := n2_; have HO185 := n3_; have BK179 := n4_; have HB := n5_; clear n0_ n1_ n2_ n3_ n4_ n5_; (try clear hb); (try clear hb2); (try clear hk); (try clear hi); (try clear ho0)))
                  (try simp only [Act.put, List.setIfInBounds_toArray, List.set_cons_zero, List.set_cons_succ])
                  go_cut [12] (fun v12 wc => ∃ (kq : Nat) (x12_14 : Int), v12 = .int .i64 x12_14 ∧ Aside0 (dist_Bind.j1 kq l0 l1 x7_1 x8_1 x30_1 t183 x12_14 l0 (l0.length : Int) x30_1 = some (r1, r2)) ∧ Aside0 (kq ≤ k1) ∧ Aside0 (Kd.V k45 45 wc w.heap.size (fun k_ => (P1_ k_ ∨ w.heap.size ≤ k_) ∧ some k_ ≠ (v176 : Value).ownBlock ∧ k_ ≠ gb179) (.slice A1 l1.length c1) l1) ∧ Aside0 (Kd.N (Kd.slice 32 k32) 23 wc w.heap.size (fun k_ => (P1_ k_ ∨ w.heap.size ≤ k_) ∧ k_ ≠ gb179) v176 x7_1) ∧ Aside0 (Kd.V k32 32 wc w.heap.size (fun k_ => (P1_ k_ ∨ w.heap.size ≤ k_) ∧ some k_ ≠ (v176 : Value).ownBlock ∧ k_ ≠ gb179) v184 t183) ∧ Aside0 (wc.heap[gb179]? = some (.cells #[(.slice A178_0 ((rd_T32 l0 x30_1).f0).length c178_0), .int .i64 ((rd_T32 l0 x30_1).f1)] 32 (0, 0))) ∧ Aside0 (Below w.heap.size w wc))
                  case first =>
                    have H := HC15.out
                    clear HC15
                    by_cases c21 : t186 = 0
                    · rw [if_pos c21] at H
                      have c21b0 : (t186 == 0) = true := beq_iff_eq.mpr c21
                      have c21b1 : (t186 != 0) = false := bne_eq_false_iff_eq.mpr c21
                      clear c21
                      (first | rw [c21b0] | (simp only [i64_w, i32_w]; rw [c21b0]) | skip)
                      replace H := Option.bind_eq_some_iff.mp H
                      obtain ⟨t187, A220, H⟩ := H
                      replace H : (dist_Bind.j1 k1 l0 l1 x7_1 x8_1 x30_1 t183 t187 l0 (l0.length : Int) x30_1) = some (r1, r2) := H
                      have A22 := Aside0.mk A220
                      clear A220
                      have H' := Aside0.mk H
                      clear H
                      obtain ⟨Ao23, co23, eo23⟩ := Kd.V_slice HO185.out
                      subst eo23
                      go_wp2_with (first | ((with_reducible refine gate_callee (f := 13) rfl ?_); refine goesL_ (some 46) rfl rfl Try.func13 (by kernel_rfl) rfl #[.slice Ao23 t183.length co23] rfl (by (try simp only [List.map_toArray, List.map_cons, List.map_nil]); first | done | rfl | (simp only [List.length_drop, List.length_take]; rfl)) ?_; (with_reducible refine (dist_Wrong.calls k1 _ _ t183 t187 _ ?side1 ?side2 A22.out).mono ?_); (case side1 => repeat (first | exact (Kd.V_reads' HO185.out).2.2 | (with_reducible refine Kd.C_alloc ?_ _) | (with_reducible refine Kd.C_drewN ?_ _) | (with_reducible refine Kd.C_drew ?_))); (case side2 => exact (Kd.V_reads' HO185.out).2.1); rintro e w24 ⟨rfl, hb⟩; refine ⟨_, rfl, ?_⟩; have n0_ := Aside0.mk (Kd.V_below (by (with_reducible repeat (first | apply Kd.V_alloc | apply Kd.V_drewN | apply Kd.V_drew)); exact HO_1.out) hb); have n1_ := Aside0.mk (Kd.N_below (by (with_reducible repeat (first | apply Kd.N_alloc | apply Kd.N_drewN | apply Kd.N_drew)); exact HO_7.out) hb); have n2_ := Aside0.mk (Kd.R_below (by (with_reducible repeat (first | apply Kd.R_alloc | apply Kd.R_drewN | apply Kd.R_drew)); exact HO182.out) hb); have n3_ := Aside0.mk (Kd.V_below (by (with_reducible repeat (first | apply Kd.V_alloc | apply Kd.V_drewN | apply Kd.V_drew)); exact HO185.out) hb); have n4_ := Aside0.mk (blk_below (g := gb179) (o := .cells #[.slice A178_0 ((rd_T32 l0 x30_1).f0).length c178_0, .int .i64 ((rd_T32 l0 x30_1).f1)] 32 (0, 0)) (by (with_reducible repeat (first | refine blk_drewN ?_ _ | refine blk_drew ?_ | refine blk_alloc ?_ _)); exact BK179.out) hb); have n5_ := Aside0.mk (below_step (by repeat (first | (with_reducible first | exact HB.out | apply below_alloc | apply pw_below_drewN | apply below_drew1 | refine below_set ?_ GE179.out) | exact HB.out)) hb); clear HO_1; clear HO_7; clear HO182; clear HO185; clear BK179; clear HB; have HO_1 := n0_; have HO_7 := n1_; have HO182 := n2_; have HO185 := n3_; have BK179 := n4_; have HB := n5_; clear n0_ n1_ n2_ n3_ n4_ n5_; (try clear hb); (try clear hb2); (try clear hk); (try clear hi)))
                      go_meet
                      case rel => exact ⟨_, (t187), (by first | rfl | (simp; done) | (simp [*]; done)), H', ⟨by have := HK1.out; first | omega | exact Nat.le_refl _⟩, ⟨by (with_reducible repeat (first | apply Kd.V_alloc | apply Kd.V_drewN | apply Kd.V_drew)); exact Kd.V_mono HO_1.out (fun _ hk => ⟨hk.1.1.1, ⟨hk.1.1.2, hk.1.2⟩⟩)⟩, ⟨by (with_reducible repeat (first | apply Kd.N_alloc | apply Kd.N_drewN | apply Kd.N_drew)); exact Kd.N_mono HO_7.out (fun _ hk => ⟨hk.1.1, hk.1.2⟩)⟩, ⟨by (with_reducible repeat (first | apply Kd.V_alloc | apply Kd.V_drewN | apply Kd.V_drew)); exact HO185.out⟩, ⟨by (with_reducible repeat (first | refine blk_drewN ?_ _ | refine blk_drew ?_ | refine blk_alloc ?_ _)); exact BK179.out⟩, ⟨by repeat (first | (with_reducible first | exact HB.out | apply below_alloc | apply pw_below_drewN | apply below_drew1 | refine below_set ?_ GE179.out) | exact HB.out)⟩⟩
                    · rw [if_neg c21] at H
                      have c21b0 : (t186 == 0) = false := beq_eq_false_iff_ne.mpr c21
                      have c21b1 : (t186 != 0) = true := bne_iff_ne.mpr c21
                      (first | rw [c21b0] | (simp only [i64_w, i32_w]; rw [c21b0]) | skip)
                      have H' := Aside0.mk H
                      clear H
                      go_wp2
                      go_meet
                      case rel => exact ⟨_, (t186), (by first | rfl | (simp; done) | (simp [*]; done)), H', ⟨by have := HK1.out; first | omega | exact Nat.le_refl _⟩, ⟨by (with_reducible repeat (first | apply Kd.V_alloc | apply Kd.V_drewN | apply Kd.V_drew)); exact Kd.V_mono HO_1.out (fun _ hk => ⟨hk.1.1.1, ⟨hk.1.1.2, hk.1.2⟩⟩)⟩, ⟨by (with_reducible repeat (first | apply Kd.N_alloc | apply Kd.N_drewN | apply Kd.N_drew)); exact Kd.N_mono HO_7.out (fun _ hk => ⟨hk.1.1, hk.1.2⟩)⟩, ⟨by (with_reducible repeat (first | apply Kd.V_alloc | apply Kd.V_drewN | apply Kd.V_drew)); exact HO185.out⟩, ⟨by (with_reducible repeat (first | refine blk_drewN ?_ _ | refine blk_drew ?_ | refine blk_alloc ?_ _)); exact BK179.out⟩, ⟨by repeat (first | (with_reducible first | exact HB.out | apply below_alloc | apply pw_below_drewN | apply below_drew1 | refine below_set ?_ GE179.out) | exact HB.out)⟩⟩
                  case rest =>
                    clear HC15
                    try clear c1
                    try clear p1
                    try clear q1
                    try clear hx1
                    try clear c2
                    try clear p2
                    try clear c4
                    try clear c4b0
                    try clear c4b1
                    try clear c5
                    try clear c5b0
                    try clear c5b1
                    try clear c6
                    try clear c6b0
                    try clear c6b1
                    try clear c10
                    try clear c10b0
                    try clear c11
                    try clear c11b0
                    try clear c12
                    try clear c12b0
                    try clear c13
                    try clear c17
                    try clear p17
                    try clear q17
                    try clear hx17
                    try clear c21
                    try clear c21b0
                    try clear c21b1
                    try clear hcz17_0
                    try clear hcz17_1
                    try clear hfz17_0
                    try clear hfz17_1
                    try clear hx178_0
                    try clear hx178_1
                    try clear p178
                    try clear p2
                    try clear q178
                    obtain ⟨kq, x12_14, rfl, HA, HJ14, HO_1, HO_7, HO_11, BK179, HB⟩ := hcut
                    obtain ⟨Av_, cv_, ev_⟩ := Kd.V_slice HO_11.out
                    subst ev_
                    cases kq with
                    | zero => exact absurd HA.out (by simp [dist_Bind.j1])
                    | succ kj14 =>
                      have H := HA.out
                      clear HA
                      simp only [dist_Bind.j1] at H
                      by_cases c25 : x12_14 = 0
                      · rw [if_pos c25] at H
                        have c25b0 : (x12_14 == 0) = true := beq_iff_eq.mpr c25
                        have c25b1 : (x12_14 != 0) = false := bne_eq_false_iff_eq.mpr c25
                        clear c25
                        by_cases c26 : 0 ≤ x30_1
                        · rw [if_pos c26] at H
                          have c26b0 : decide (0 ≤ x30_1) = true := decide_eq_true c26
                          clear c26
                          by_cases c27 : x30_1 < (x7_1.length : Int)
                          · rw [if_pos c27] at H
                            have c27b0 : decide (x30_1 < (x7_1.length : Int)) = true := decide_eq_true c27
                            clear c27
                            obtain ⟨y188, hy188⟩ : ∃ y_ : List (List (S32)), y_ = (x7_1.set (x30_1 : Int).toNat t183) := ⟨_, rfl⟩
                            replace H : ((dist_total.f kj14 t183).bind fun t189 => ((dist_gcd.f kj14 x8_1 t189).bind fun t190 => (if t190 = 0 then (none) else (if (wrap64 ((wrap64 (Int.tdiv x8_1 t190)) * t189)) > 1073741824 then (some (([] : List (S32)), 4)) else (dist_Bind.l0 kj14 l0 l1 y188 (wrap64 ((wrap64 (Int.tdiv x8_1 t190)) * t189)) l0 (l0.length : Int) (wrap64 (x30_1 + 1))))))) = some (r1, r2) := by first | (rw [hy188]; with_reducible exact H) | (have H2_ := (Option.bind_some _ _).symm.trans H; rw [hy188]; with_reducible exact H2_) | (have H2_ := (Option.bind_some _ _).symm.trans H; with_reducible exact H2_) | with_reducible exact H | (rw [hy188]; exact H) | exact H
                            have Ny188 := Aside0.mk hy188
                            clear hy188
                            replace H := Option.bind_eq_some_iff.mp H
                            obtain ⟨t189, A290, H⟩ := H
                            replace H : ((dist_gcd.f kj14 x8_1 t189).bind fun t190 => (if t190 = 0 then (none) else (if (wrap64 ((wrap64 (Int.tdiv x8_1 t190)) * t189)) > 1073741824 then (some (([] : List (S32)), 4)) else (dist_Bind.l0 kj14 l0 l1 y188 (wrap64 ((wrap64 (Int.tdiv x8_1 t190)) * t189)) l0 (l0.length : Int) (wrap64 (x30_1 + 1)))))) = some (r1, r2) := H
                            have A29 := Aside0.mk A290
                            clear A290
                            replace H := Option.bind_eq_some_iff.mp H
                            obtain ⟨t190, A300, H⟩ := H
                            replace H : (if t190 = 0 then (none) else (if (wrap64 ((wrap64 (Int.tdiv x8_1 t190)) * t189)) > 1073741824 then (some (([] : List (S32)), 4)) else (dist_Bind.l0 kj14 l0 l1 y188 (wrap64 ((wrap64 (Int.tdiv x8_1 t190)) * t189)) l0 (l0.length : Int) (wrap64 (x30_1 + 1))))) = some (r1, r2) := H
                            have A30 := Aside0.mk A300
                            clear A300
                            by_cases c31 : t190 = 0
                            · rw [if_pos c31] at H
                              exact absurd H (by simp)
                            · rw [if_neg c31] at H
                              have c31b0 : (t190 == 0) = false := beq_eq_false_iff_ne.mpr c31
                              have c31b1 : (t190 != 0) = true := bne_iff_ne.mpr c31
                              by_cases c32 : (wrap64 ((wrap64 (Int.tdiv x8_1 t190)) * t189)) > 1073741824
                              · rw [if_pos c32] at H
                                have c32b0 : decide (1073741824 < (wrap64 ((wrap64 (Int.tdiv x8_1 t190)) * t189))) = true := decide_eq_true c32
                                clear c32
                                simp only [Option.some.injEq, Prod.mk.injEq] at H
                                obtain ⟨rfl, rfl⟩ := H
                                have p28 : 0 ≤ (x30_1 : Int) := of_decide_eq_true (by first | (with_reducible assumption) | assumption)
                                have q28 : (x30_1 : Int) < ((x7_1.length : Int) : Int) := of_decide_eq_true (by first | (with_reducible assumption) | assumption)
                                obtain ⟨go28, co28, eo28, gb28, gl28, cl28, HG28⟩ := Kd.N_form HO_7.out (by omega)
                                (first | cases eo28 | (injection eo28 with ea_ en_ ec_; (first | subst ea_ | (injection ea_ with ea_; subst ea_)); subst ec_; clear en_))
                                have GB28 := Aside0.mk gb28
                                have GG28 := Aside0.mk HG28
                                clear gb28 gl28 HG28
                                obtain ⟨ce28, hcl28, hM28, hcc28, hfr28⟩ := Kd.N_elem HO_7.out [] (x30_1 : Int) p28 q28
                                obtain ⟨ua28_0, uc28_0, rfl, ul28_0, ge28_0⟩ := Kd.FK_slice_open hM28
                                have hx28_0 := hcc28 0 _ rfl
                                have hf28_0 := hfr28 0
                                (try simp only [show ((Kd.slice 32 k32)).sz = 1 from rfl, Nat.mul_one, Nat.add_zero] at hx28_0)
                                (try simp only [show ((Kd.slice 32 k32)).sz = 1 from rfl, Nat.mul_one, Nat.add_zero] at hf28_0)
                                clear hcl28 hcc28 hfr28 hM28
                                replace p28 := eq_true p28
                                replace q28 := eq_true q28
                                have HX33 := Aside0.mk (show Kd.N (Kd.slice 32 k32) 23 wc w.heap.size (fun k_ => (P1_ k_ ∨ w.heap.size ≤ k_) ∧ k_ ≠ gb179) (.slice (some ⟨go28, 0, none⟩) x7_1.length co28) x7_1 from (by (with_reducible repeat (first | apply Kd.N_alloc | apply Kd.N_drewN | apply Kd.N_drew)); exact HO_7.out))
                                obtain ⟨ce33, hcl33, hM33, hcc33, hfr33⟩ := Kd.N_elem HX33.out [] (x30_1 : Int) (of_decide_eq_true (by first | (with_reducible assumption) | assumption)) (by have h_ : (x30_1 : Int) < ((x7_1.length : Int) : Int) := of_decide_eq_true (by first | (with_reducible assumption) | assumption); first | exact h_ | (have e_ := (Kd.N_reads' HO_7.out).1; omega) | simpa using h_)
                                obtain ⟨ua33_0, uc33_0, rfl, ul33_0, ge33_0⟩ := Kd.FK_slice_open hM33
                                have HP33 := Kd.N_seg HX33.out (x30_1 : Int) (of_decide_eq_true (by first | (with_reducible assumption) | assumption)) (by have h_ : (x30_1 : Int) < ((x7_1.length : Int) : Int) := of_decide_eq_true (by first | (with_reducible assumption) | assumption); first | exact h_ | (have e_ := (Kd.N_reads' HO_7.out).1; omega) | simpa using h_) (seg := [(.slice Av_ t183.length cv_ : Value)]) (j := 0) hcl33 hcc33 (show 1 ≤ 1 from by decide) (x' := t183) (Kd.FK_slice_mk (Kd.V_reads' (Kd.V_mono (ok' := (fun k_ => ((fun k_ => (P1_ k_ ∨ w.heap.size ≤ k_) ∧ k_ ≠ gb179)) k_ ∧ k_ ≠ go28)) (HO_11.out) (fun k_ hk => ⟨⟨hk.1, hk.2.2⟩, fun e_ => (hk.2.1) (by rw [e_]; rfl)⟩))).2.1 (Kd.V_F (Kd.V_mono (ok' := (fun k_ => ((fun k_ => (P1_ k_ ∨ w.heap.size ≤ k_) ∧ k_ ≠ gb179)) k_ ∧ k_ ≠ go28)) (HO_11.out) (fun k_ hk => ⟨⟨hk.1, hk.2.2⟩, fun e_ => (hk.2.1) (by rw [e_]; rfl)⟩)))) (fun _ hk => hk)
                                have hx33_0 := hcc33 0 _ rfl
                                (try simp only [show ((Kd.slice 32 k32)).sz = 1 from rfl, Nat.mul_one, Nat.add_zero] at hx33_0)
                                have hf33_0 := hfr33 0
                                (try simp only [show ((Kd.slice 32 k32)).sz = 1 from rfl, Nat.mul_one, Nat.add_zero] at hf33_0)
                                clear hcl33 hcc33 hfr33 hM33
                                (try simp only [show ((Kd.slice 32 k32)).sz = 1 from rfl, Nat.mul_one, Nat.add_zero] at HP33)
                                (try simp only [show ((Kd.slice 32 k32)).sz = 1 from rfl, Nat.mul_one, Nat.add_zero] at HP33)
                                go_wp2_with (first | ((with_reducible refine gate_store (t := 23) (p := 53) rfl ?_); refine store_event (t := 23) (p := 53) (v := ?vo_w34) (w1 := (wc.setCell ⟨go28, (x30_1 : Int).toNat, none⟩ ((.slice Av_ t183.length cv_ : Value)))) ?hg ?ho ?hn ?hr ?_; (case ho => rfl); (case hg => rfl); (case hn => rfl); (case hr => first | (go_simp; done) | (go_simp; rfl)); intro w34 hw; have hg : wc.grownBy w34 (some go28) := (by rw [hw]; exact HP33.2); have hp_ : Kd.N (Kd.slice 32 k32) 23 w34 w.heap.size (fun k_ => (P1_ k_ ∨ w.heap.size ≤ k_) ∧ k_ ≠ gb179) (.slice (some ⟨go28, 0, none⟩) x7_1.length co28) y188 := (by rw [hw, Ny188.out]; exact HP33.1); clear HP33; have n0_ := Aside0.mk (Kd.V_afterv (v := (.slice (some ⟨go28, 0, none⟩) x7_1.length co28)) (v1 := (.slice (some ⟨go28, 0, none⟩) x7_1.length co28)) (ok := (fun k_ => (P1_ k_ ∨ w.heap.size ≤ k_) ∧ k_ ≠ gb179)) (by (with_reducible repeat (first | apply Kd.V_alloc | apply Kd.V_drewN | apply Kd.V_drew)); exact Kd.V_mono HO_1.out (fun _ hk => ⟨⟨hk.1, hk.2.2⟩, hk.2.1⟩)) hg (.inl rfl)); have n1_ := Aside0.mk (hp_); have n2_ := Aside0.mk (Kd.V_afterv (v := (.slice (some ⟨go28, 0, none⟩) x7_1.length co28)) (v1 := (.slice (some ⟨go28, 0, none⟩) x7_1.length co28)) (ok := (fun k_ => (P1_ k_ ∨ w.heap.size ≤ k_) ∧ k_ ≠ gb179)) (by (with_reducible repeat (first | apply Kd.V_alloc | apply Kd.V_drewN | apply Kd.V_drew)); exact Kd.V_mono HO_11.out (fun _ hk => ⟨⟨hk.1, hk.2.2⟩, hk.2.1⟩)) hg (.inl rfl)); have n3_ := Aside0.mk (blk_grown (g := gb179) (o := .cells #[.slice A178_0 ((rd_T32 l0 x30_1).f0).length c178_0, .int .i64 ((rd_T32 l0 x30_1).f1)] 32 (0, 0)) (by (with_reducible repeat (first | refine blk_drewN ?_ _ | refine blk_drew ?_ | refine blk_alloc ?_ _)); exact BK179.out) hg (Kd.N_ne HO_7.out BK179.out (by decide))); have n4_ := Aside0.mk ((by rw [hw]; exact below_set (HB.out) GB28.out : Below w.heap.size w w34)); clear HO_1; clear HO_7; clear HO_11; clear BK179; clear HB; have HO_1 := n0_; have HO_7 := n1_; have HO_11 := n2_; have BK179 := n3_; have HB := n4_; clear n0_ n1_ n2_ n3_ n4_; clear hg hw hp_; obtain ⟨Ao35, co35, eo35⟩ := Kd.V_slice HO_11.out; (injection eo35 with ea_ en_ ec_; replace ea_ := ea_.symm; replace ec_ := ec_.symm; subst ea_; subst ec_; clear en_)) | ((with_reducible refine gate_callee (f := 48) rfl ?_); refine goesL_ (some 55) rfl rfl Try.func48 (by kernel_rfl) rfl #[.slice Ao35 t183.length co35] rfl (by (try simp only [List.map_toArray, List.map_cons, List.map_nil]); first | done | rfl | (simp only [List.length_drop, List.length_take]; rfl)) ?_; (with_reducible refine (dist_total.calls kj14 _ _ t183 t189 _ ?side1 ?side2 A29.out).mono ?_); (case side1 => repeat (first | exact (Kd.V_reads' HO_11.out).2.2 | (with_reducible refine Kd.C_alloc ?_ _) | (with_reducible refine Kd.C_drewN ?_ _) | (with_reducible refine Kd.C_drew ?_))); (case side2 => exact (Kd.V_reads' HO_11.out).2.1); rintro e w36 ⟨rfl, hb⟩; refine ⟨_, rfl, ?_⟩; have n0_ := Aside0.mk (Kd.V_below (by (with_reducible repeat (first | apply Kd.V_alloc | apply Kd.V_drewN | apply Kd.V_drew)); exact HO_1.out) hb); have n1_ := Aside0.mk (Kd.N_below (by (with_reducible repeat (first | apply Kd.N_alloc | apply Kd.N_drewN | apply Kd.N_drew)); exact HO_7.out) hb); have n2_ := Aside0.mk (Kd.V_below (by (with_reducible repeat (first | apply Kd.V_alloc | apply Kd.V_drewN | apply Kd.V_drew)); exact HO_11.out) hb); have n3_ := Aside0.mk (blk_below (g := gb179) (o := .cells #[.slice A178_0 ((rd_T32 l0 x30_1).f0).length c178_0, .int .i64 ((rd_T32 l0 x30_1).f1)] 32 (0, 0)) (by (with_reducible repeat (first | refine blk_drewN ?_ _ | refine blk_drew ?_ | refine blk_alloc ?_ _)); exact BK179.out) hb); have n4_ := Aside0.mk (below_step (by repeat (first | (with_reducible first | exact HB.out | apply below_alloc | apply pw_below_drewN | apply below_drew1 | refine below_set ?_ GE179.out) | exact HB.out)) hb); clear HO_1; clear HO_7; clear HO_11; clear BK179; clear HB; have HO_1 := n0_; have HO_7 := n1_; have HO_11 := n2_; have BK179 := n3_; have HB := n4_; clear n0_ n1_ n2_ n3_ n4_; (try clear hb); (try clear hb2); (try clear hk); (try clear hi)) | ((with_reducible refine gate_callee (f := 52) rfl ?_); refine goesL_ (some 59) rfl rfl Try.func52 (by kernel_rfl) rfl #[.int .i64 x8_1, .int .i64 t189] rfl (by (try simp only [List.map_toArray, List.map_cons, List.map_nil]); first | done | rfl | (simp only [List.length_drop, List.length_take]; rfl)) ?_; (with_reducible refine (dist_gcd.calls kj14 x8_1 t189 t190 _ A30.out).mono ?_); rintro e w' ⟨rfl, ⟨nd, rfl⟩⟩; refine ⟨_, rfl, ?_⟩))
                                go_ret2
                                exact ⟨_, by first | rfl | (simp [errW_none, errW_some] <;> rfl) | (simp [*, errW_none, errW_some] <;> rfl), by first | exact Kd.S_nil _ _ _ _ _ | exact Kd.N_nil _ _ _ _ _ | exact Kd.V_nil _ _ _ _ _ | exact Kd.Q_nil _ _ _ _ _ | exact Kd.R_nil _ _ _ _ _, by repeat (first | (with_reducible first | exact HB.out | apply below_alloc | apply pw_below_drewN | apply below_drew1 | refine below_set ?_ GE179.out) | exact HB.out)⟩
                              · rw [if_neg c32] at H
                                have c32b0 : decide (1073741824 < (wrap64 ((wrap64 (Int.tdiv x8_1 t190)) * t189))) = false := decide_eq_false c32
                                clear c32
                                have H' := Aside0.mk H
                                clear H
                                have p28 : 0 ≤ (x30_1 : Int) := of_decide_eq_true (by first | (with_reducible assumption) | assumption)
                                have q28 : (x30_1 : Int) < ((x7_1.length : Int) : Int) := of_decide_eq_true (by first | (with_reducible assumption) | assumption)
                                obtain ⟨go28, co28, eo28, gb28, gl28, cl28, HG28⟩ := Kd.N_form HO_7.out (by omega)
                                (first | cases eo28 | (injection eo28 with ea_ en_ ec_; (first | subst ea_ | (injection ea_ with ea_; subst ea_)); subst ec_; clear en_))
                                have GB28 := Aside0.mk gb28
                                have GG28 := Aside0.mk HG28
                                clear gb28 gl28 HG28
                                obtain ⟨ce28, hcl28, hM28, hcc28, hfr28⟩ := Kd.N_elem HO_7.out [] (x30_1 : Int) p28 q28
                                obtain ⟨ua28_0, uc28_0, rfl, ul28_0, ge28_0⟩ := Kd.FK_slice_open hM28
                                have hx28_0 := hcc28 0 _ rfl
                                have hf28_0 := hfr28 0
                                (try simp only [show ((Kd.slice 32 k32)).sz = 1 from rfl, Nat.mul_one, Nat.add_zero] at hx28_0)
                                (try simp only [show ((Kd.slice 32 k32)).sz = 1 from rfl, Nat.mul_one, Nat.add_zero] at hf28_0)
                                clear hcl28 hcc28 hfr28 hM28
                                replace p28 := eq_true p28
                                replace q28 := eq_true q28
                                have HX37 := Aside0.mk (show Kd.N (Kd.slice 32 k32) 23 wc w.heap.size (fun k_ => (P1_ k_ ∨ w.heap.size ≤ k_) ∧ k_ ≠ gb179) (.slice (some ⟨go28, 0, none⟩) x7_1.length co28) x7_1 from (by (with_reducible repeat (first | apply Kd.N_alloc | apply Kd.N_drewN | apply Kd.N_drew)); exact HO_7.out))
                                obtain ⟨ce37, hcl37, hM37, hcc37, hfr37⟩ := Kd.N_elem HX37.out [] (x30_1 : Int) (of_decide_eq_true (by first | (with_reducible assumption) | assumption)) (by have h_ : (x30_1 : Int) < ((x7_1.length : Int) : Int) := of_decide_eq_true (by first | (with_reducible assumption) | assumption); first | exact h_ | (have e_ := (Kd.N_reads' HO_7.out).1; omega) | simpa using h_)
                                obtain ⟨ua37_0, uc37_0, rfl, ul37_0, ge37_0⟩ := Kd.FK_slice_open hM37
                                have HP37 := Kd.N_seg HX37.out (x30_1 : Int) (of_decide_eq_true (by first | (with_reducible assumption) | assumption)) (by have h_ : (x30_1 : Int) < ((x7_1.length : Int) : Int) := of_decide_eq_true (by first | (with_reducible assumption) | assumption); first | exact h_ | (have e_ := (Kd.N_reads' HO_7.out).1; omega) | simpa using h_) (seg := [(.slice Av_ t183.length cv_ : Value)]) (j := 0) hcl37 hcc37 (show 1 ≤ 1 from by decide) (x' := t183) (Kd.FK_slice_mk (Kd.V_reads' (Kd.V_mono (ok' := (fun k_ => ((fun k_ => (P1_ k_ ∨ w.heap.size ≤ k_) ∧ k_ ≠ gb179)) k_ ∧ k_ ≠ go28)) (HO_11.out) (fun k_ hk => ⟨⟨hk.1, hk.2.2⟩, fun e_ => (hk.2.1) (by rw [e_]; rfl)⟩))).2.1 (Kd.V_F (Kd.V_mono (ok' := (fun k_ => ((fun k_ => (P1_ k_ ∨ w.heap.size ≤ k_) ∧ k_ ≠ gb179)) k_ ∧ k_ ≠ go28)) (HO_11.out) (fun k_ hk => ⟨⟨hk.1, hk.2.2⟩, fun e_ => (hk.2.1) (by rw [e_]; rfl)⟩)))) (fun _ hk => hk)
                                have hx37_0 := hcc37 0 _ rfl
                                (try simp only [show ((Kd.slice 32 k32)).sz = 1 from rfl, Nat.mul_one, Nat.add_zero] at hx37_0)
                                have hf37_0 := hfr37 0
                                (try simp only [show ((Kd.slice 32 k32)).sz = 1 from rfl, Nat.mul_one, Nat.add_zero] at hf37_0)
                                clear hcl37 hcc37 hfr37 hM37
                                (try simp only [show ((Kd.slice 32 k32)).sz = 1 from rfl, Nat.mul_one, Nat.add_zero] at HP37)
                                (try simp only [show ((Kd.slice 32 k32)).sz = 1 from rfl, Nat.mul_one, Nat.add_zero] at HP37)
                                go_wp2_with (first | ((with_reducible refine gate_store (t := 23) (p := 53) rfl ?_); refine store_event (t := 23) (p := 53) (v := ?vo_w38) (w1 := (wc.setCell ⟨go28, (x30_1 : Int).toNat, none⟩ ((.slice Av_ t183.length cv_ : Value)))) ?hg ?ho ?hn ?hr ?_; (case ho => rfl); (case hg => rfl); (case hn => rfl); (case hr => first | (go_simp; done) | (go_simp; rfl)); intro w38 hw; have hg : wc.grownBy w38 (some go28) := (by rw [hw]; exact HP37.2); have hp_ : Kd.N (Kd.slice 32 k32) 23 w38 w.heap.size (fun k_ => (P1_ k_ ∨ w.heap.size ≤ k_) ∧ k_ ≠ gb179) (.slice (some ⟨go28, 0, none⟩) x7_1.length co28) y188 := (by rw [hw, Ny188.out]; exact HP37.1); clear HP37; have n0_ := Aside0.mk (Kd.V_afterv (v := (.slice (some ⟨go28, 0, none⟩) x7_1.length co28)) (v1 := (.slice (some ⟨go28, 0, none⟩) x7_1.length co28)) (ok := (fun k_ => (P1_ k_ ∨ w.heap.size ≤ k_) ∧ k_ ≠ gb179)) (by (with_reducible repeat (first | apply Kd.V_alloc | apply Kd.V_drewN | apply Kd.V_drew)); exact Kd.V_mono HO_1.out (fun _ hk => ⟨⟨hk.1, hk.2.2⟩, hk.2.1⟩)) hg (.inl rfl)); have n1_ := Aside0.mk (hp_); have n2_ := Aside0.mk (Kd.V_afterv (v := (.slice (some ⟨go28, 0, none⟩) x7_1.length co28)) (v1 := (.slice (some ⟨go28, 0, none⟩) x7_1.length co28)) (ok := (fun k_ => (P1_ k_ ∨ w.heap.size ≤ k_) ∧ k_ ≠ gb179)) (by (with_reducible repeat (first | apply Kd.V_alloc | apply Kd.V_drewN | apply Kd.V_drew)); exact Kd.V_mono HO_11.out (fun _ hk => ⟨⟨hk.1, hk.2.2⟩, hk.2.1⟩)) hg (.inl rfl)); have n3_ := Aside0.mk (blk_grown (g := gb179) (o := .cells #[.slice A178_0 ((rd_T32 l0 x30_1).f0).length c178_0, .int .i64 ((rd_T32 l0 x30_1).f1)] 32 (0, 0)) (by (with_reducible repeat (first | refine blk_drewN ?_ _ | refine blk_drew ?_ | refine blk_alloc ?_ _)); exact BK179.out) hg (Kd.N_ne HO_7.out BK179.out (by decide))); have n4_ := Aside0.mk ((by rw [hw]; exact below_set (HB.out) GB28.out : Below w.heap.size w w38)); clear HO_1; clear HO_7; clear HO_11; clear BK179; clear HB; have HO_1 := n0_; have HO_7 := n1_; have HO_11 := n2_; have BK179 := n3_; have HB := n4_; clear n0_ n1_ n2_ n3_ n4_; clear hg hw hp_; obtain ⟨Ao39, co39, eo39⟩ := Kd.V_slice HO_11.out; (injection eo39 with ea_ en_ ec_; replace ea_ := ea_.symm; replace ec_ := ec_.symm; subst ea_; subst ec_; clear en_)) | ((with_reducible refine gate_callee (f := 48) rfl ?_); refine goesL_ (some 55) rfl rfl Try.func48 (by kernel_rfl) rfl #[.slice Ao39 t183.length co39] rfl (by (try simp only [List.map_toArray, List.map_cons, List.map_nil]); first | done | rfl | (simp only [List.length_drop, List.length_take]; rfl)) ?_; (with_reducible refine (dist_total.calls kj14 _ _ t183 t189 _ ?side1 ?side2 A29.out).mono ?_); (case side1 => repeat (first | exact (Kd.V_reads' HO_11.out).2.2 | (with_reducible refine Kd.C_alloc ?_ _) | (with_reducible refine Kd.C_drewN ?_ _) | (with_reducible refine Kd.C_drew ?_))); (case side2 => exact (Kd.V_reads' HO_11.out).2.1); rintro e w40 ⟨rfl, hb⟩; refine ⟨_, rfl, ?_⟩; have n0_ := Aside0.mk (Kd.V_below (by (with_reducible repeat (first | apply Kd.V_alloc | apply Kd.V_drewN | apply Kd.V_drew)); exact HO_1.out) hb); have n1_ := Aside0.mk (Kd.N_below (by (with_reducible repeat (first | apply Kd.N_alloc | apply Kd.N_drewN | apply Kd.N_drew)); exact HO_7.out) hb); have n2_ := Aside0.mk (Kd.V_below (by (with_reducible repeat (first | apply Kd.V_alloc | apply Kd.V_drewN | apply Kd.V_drew)); exact HO_11.out) hb); have n3_ := Aside0.mk (blk_below (g := gb179) (o := .cells #[.slice A178_0 ((rd_T32 l0 x30_1).f0).length c178_0, .int .i64 ((rd_T32 l0 x30_1).f1)] 32 (0, 0)) (by (with_reducible repeat (first | refine blk_drewN ?_ _ | refine blk_drew ?_ | refine blk_alloc ?_ _)); exact BK179.out) hb); have n4_ := Aside0.mk (below_step (by repeat (first | (with_reducible first | exact HB.out | apply below_alloc | apply pw_below_drewN | apply below_drew1 | refine below_set ?_ GE179.out) | exact HB.out)) hb); clear HO_1; clear HO_7; clear HO_11; clear BK179; clear HB; have HO_1 := n0_; have HO_7 := n1_; have HO_11 := n2_; have BK179 := n3_; have HB := n4_; clear n0_ n1_ n2_ n3_ n4_; (try clear hb); (try clear hb2); (try clear hk); (try clear hi)) | ((with_reducible refine gate_callee (f := 52) rfl ?_); refine goesL_ (some 59) rfl rfl Try.func52 (by kernel_rfl) rfl #[.int .i64 x8_1, .int .i64 t189] rfl (by (try simp only [List.map_toArray, List.map_cons, List.map_nil]); first | done | rfl | (simp only [List.length_drop, List.length_take]; rfl)) ?_; (with_reducible refine (dist_gcd.calls kj14 x8_1 t189 t190 _ A30.out).mono ?_); rintro e w' ⟨rfl, ⟨nd, rfl⟩⟩; refine ⟨_, rfl, ?_⟩))
                                go_roundg kj14
                                case measure => have := HK1.out; have := HJ14.out; omega
                                case rel => exact ⟨(y188), (wrap64 ((wrap64 (Int.tdiv x8_1 t190)) * t189)), (wrap64 (x30_1 + 1)), (by first | rfl | (simp; done) | (simp [*]; done)), (by first | rfl | (simp; done) | (simp [*]; done)), H', ⟨by have := HK1.out; have := HJ14.out; omega⟩, ⟨by (with_reducible repeat (first | apply Kd.V_alloc | apply Kd.V_drewN | apply Kd.V_drew)); exact Kd.V_mono HO_1.out (fun _ hk => ⟨hk.1.1, hk.2⟩)⟩, ⟨by (with_reducible repeat (first | apply Kd.N_alloc | apply Kd.N_drewN | apply Kd.N_drew)); exact Kd.N_mono HO_7.out (fun _ hk => hk.1)⟩, ⟨by repeat (first | (with_reducible first | exact HB.out | apply below_alloc | apply pw_below_drewN | apply below_drew1 | refine below_set ?_ GE179.out) | exact HB.out)⟩⟩
                          · rw [if_neg c27] at H
                            exact absurd H (by simp)
                        · rw [if_neg c26] at H
                          exact absurd H (by simp)
                      · rw [if_neg c25] at H
                        have c25b0 : (x12_14 == 0) = false := beq_eq_false_iff_ne.mpr c25
                        have c25b1 : (x12_14 != 0) = true := bne_iff_ne.mpr c25
                        simp only [Option.some.injEq, Prod.mk.injEq] at H
                        obtain ⟨rfl, rfl⟩ := H
                        go_wp2
                        go_ret2
                        exact ⟨_, by first | rfl | (simp [errW_none, errW_some] <;> rfl) | (simp [*, errW_none, errW_some] <;> rfl), by first | exact Kd.S_nil _ _ _ _ _ | exact Kd.N_nil _ _ _ _ _ | exact Kd.V_nil _ _ _ _ _ | exact Kd.Q_nil _ _ _ _ _ | exact Kd.R_nil _ _ _ _ _, by repeat (first | (with_reducible first | exact HB.out | apply below_alloc | apply pw_below_drewN | apply below_drew1 | refine below_set ?_ GE179.out) | exact HB.out)⟩
                · rw [if_neg c12] at H
                  exact absurd H (by simp)
              · rw [if_neg c11] at H
                exact absurd H (by simp)
            · rw [if_neg c10] at H
              have c10b0 : decide (x30_1 < (l0.length : Int)) = false := decide_eq_false c10
              clear c10
              replace H := Option.bind_eq_some_iff.mp H
              obtain ⟨t191, A410, H⟩ := H
              replace H : (if (wrap64 (x8_1 * t191)) > 1073741824 then (some (([] : List (S32)), 4)) else (dist_Bind.l1 k1 x7_1 x8_1 ([] : List (S32)) l0 (l0.length : Int) 0)) = some (r1, r2) := H
              have A41 := Aside0.mk A410
              clear A410
              by_cases c42 : (wrap64 (x8_1 * t191)) > 1073741824
              · rw [if_pos c42] at H
                have c42b0 : decide (1073741824 < (wrap64 (x8_1 * t191))) = true := decide_eq_true c42
                clear c42
                simp only [Option.some.injEq, Prod.mk.injEq] at H
                obtain ⟨rfl, rfl⟩ := H
                go_wp2_with (first | ((with_reducible refine gate_callee (f := 48) rfl ?_); refine goesL_ (some 68) rfl rfl Try.func48 (by kernel_rfl) rfl #[.slice A0 l0.length c0] rfl (by (try simp only [List.map_toArray, List.map_cons, List.map_nil]); first | done | rfl | (simp only [List.length_drop, List.length_take]; rfl)) ?_; (with_reducible refine (dist_total.calls k1 _ _ l0 t191 _ ?side1 ?side2 A41.out).mono ?_); (case side1 => repeat (first | exact (Kd.C_below HR0.out HB.out) | (with_reducible refine Kd.C_alloc ?_ _) | (with_reducible refine Kd.C_drewN ?_ _) | (with_reducible refine Kd.C_drew ?_))); (case side2 => exact HC0.out); rintro e w43 ⟨rfl, hb⟩; refine ⟨_, rfl, ?_⟩; have n0_ := Aside0.mk (Kd.V_below (by (with_reducible repeat (first | apply Kd.V_alloc | apply Kd.V_drewN | apply Kd.V_drew)); exact HO_1.out) hb); have n1_ := Aside0.mk (Kd.N_below (by (with_reducible repeat (first | apply Kd.N_alloc | apply Kd.N_drewN | apply Kd.N_drew)); exact HO_7.out) hb); have n2_ := Aside0.mk (below_step (by repeat (first | (with_reducible first | exact HB.out | apply below_alloc | apply pw_below_drewN | apply below_drew1) | exact HB.out)) hb); clear HO_1; clear HO_7; clear HB; have HO_1 := n0_; have HO_7 := n1_; have HB := n2_; clear n0_ n1_ n2_; (try clear hb); (try clear hb2); (try clear hk); (try clear hi)))
                go_ret2
                exact ⟨_, by first | rfl | (simp [errW_none, errW_some] <;> rfl) | (simp [*, errW_none, errW_some] <;> rfl), by first | exact Kd.S_nil _ _ _ _ _ | exact Kd.N_nil _ _ _ _ _ | exact Kd.V_nil _ _ _ _ _ | exact Kd.Q_nil _ _ _ _ _ | exact Kd.R_nil _ _ _ _ _, by repeat (first | (with_reducible first | exact HB.out | apply below_alloc | apply pw_below_drewN | apply below_drew1) | exact HB.out)⟩
              · rw [if_neg c42] at H
                have c42b0 : decide (1073741824 < (wrap64 (x8_1 * t191))) = false := decide_eq_false c42
                clear c42
                have H' := Aside0.mk H
                clear H
                go_wp2_with (first | ((with_reducible refine gate_callee (f := 48) rfl ?_); refine goesL_ (some 68) rfl rfl Try.func48 (by kernel_rfl) rfl #[.slice A0 l0.length c0] rfl (by (try simp only [List.map_toArray, List.map_cons, List.map_nil]); first | done | rfl | (simp only [List.length_drop, List.length_take]; rfl)) ?_; (with_reducible refine (dist_total.calls k1 _ _ l0 t191 _ ?side1 ?side2 A41.out).mono ?_); (case side1 => repeat (first | exact (Kd.C_below HR0.out HB.out) | (with_reducible refine Kd.C_alloc ?_ _) | (with_reducible refine Kd.C_drewN ?_ _) | (with_reducible refine Kd.C_drew ?_))); (case side2 => exact HC0.out); rintro e w44 ⟨rfl, hb⟩; refine ⟨_, rfl, ?_⟩; have n0_ := Aside0.mk (Kd.V_below (by (with_reducible repeat (first | apply Kd.V_alloc | apply Kd.V_drewN | apply Kd.V_drew)); exact HO_1.out) hb); have n1_ := Aside0.mk (Kd.N_below (by (with_reducible repeat (first | apply Kd.N_alloc | apply Kd.N_drewN | apply Kd.N_drew)); exact HO_7.out) hb); have n2_ := Aside0.mk (below_step (by repeat (first | (with_reducible first | exact HB.out | apply below_alloc | apply pw_below_drewN | apply below_drew1) | exact HB.out)) hb); clear HO_1; clear HO_7; clear HB; have HO_1 := n0_; have HO_7 := n1_; have HB := n2_; clear n0_ n1_ n2_; (try clear hb); (try clear hb2); (try clear hk); (try clear hi)))
                go_loopg [14, 73] k1 (fun kq v14 v73 w' => ∃ (x14_2 : List (S32)) (x73_2 : Int), v73 = .int .i64 x73_2 ∧ Aside0 (dist_Bind.l1 kq x7_1 x8_1 x14_2 l0 (l0.length : Int) x73_2 = some (r1, r2)) ∧ Aside0 (kq ≤ k1) ∧ Aside0 (Kd.N (Kd.slice 32 k32) 23 w' w.heap.size (fun k_ => (P1_ k_ ∨ w.heap.size ≤ k_) ∧ some k_ ≠ (v14 : Value).ownBlock) v176 x7_1) ∧ Aside0 (Kd.N k32 32 w' w.heap.size (fun k_ => (w.heap.size ≤ k_) ∧ some k_ ≠ (v176 : Value).ownBlock) v14 x14_2) ∧ Aside0 (Below w.heap.size w w'))
                case atStart => exact ⟨(([] : List (S32))), (0), (by first | rfl | (simp; done) | (simp [*]; done)), H', ⟨Nat.le_refl _⟩, ⟨by (with_reducible repeat (first | apply Kd.N_alloc | apply Kd.N_drewN | apply Kd.N_drew)); exact Kd.N_mono HO_7.out (fun _ hk => ⟨hk, (by simp [Value.ownBlock])⟩)⟩, ⟨by first | exact Kd.S_nil _ _ _ _ _ | exact Kd.N_nil _ _ _ _ _ | exact Kd.V_nil _ _ _ _ _ | exact Kd.Q_nil _ _ _ _ _ | exact Kd.R_nil _ _ _ _ _⟩, ⟨by repeat (first | (with_reducible first | exact HB.out | apply below_alloc | apply pw_below_drewN | apply below_drew1) | exact HB.out)⟩⟩
                case round =>
                  clear H'
                  try clear c1
                  try clear p1
                  try clear q1
                  try clear hx1
                  try clear c2
                  try clear p2
                  try clear q2
                  try clear hx2
                  try clear hf2
                  try clear c3
                  try clear hx3
                  try clear hf3
                  try clear c4
                  try clear c4b0
                  try clear c4b1
                  try clear c5
                  try clear c5b0
                  try clear c5b1
                  try clear c6
                  try clear c6b0
                  try clear c6b1
                  try clear p6
                  try clear c10
                  try clear c10b0
                  try clear c11
                  try clear c11b0
                  try clear c12
                  try clear c12b0
                  try clear c13
                  try clear c17
                  try clear p17
                  try clear q17
                  try clear hx17
                  try clear c21
                  try clear c21b0
                  try clear c21b1
                  try clear c25
                  try clear c25b0
                  try clear c25b1
                  try clear c26
                  try clear c26b0
                  try clear c27
                  try clear c27b0
                  try clear c28
                  try clear p28
                  try clear q28
                  try clear hx28
                  try clear hf28
                  try clear c31
                  try clear c31b0
                  try clear c31b1
                  try clear c32
                  try clear c32b0
                  try clear c33
                  try clear hx33
                  try clear hf33
                  try clear c37
                  try clear hx37
                  try clear hf37
                  try clear c40
                  try clear c42
                  try clear c42b0
                  try clear hcz17_0
                  try clear hcz17_1
                  try clear hfz17_0
                  try clear hfz17_1
                  try clear hx178_0
                  try clear hx178_1
                  try clear hx28_0
                  try clear hx33_0
                  try clear hx37_0
                  try clear p1
                  try clear p17
                  try clear p178
                  try clear p2
                  try clear p28
                  try clear q1
                  try clear q17
                  try clear q178
                  try clear q28
                  obtain ⟨x14_2, x73_2, rfl, HA, HK2, HO_7, HO_14, HB⟩ := hrel
                  cases gk with
                  | zero => exact absurd HA.out (by simp [dist_Bind.l1])
                  | succ k2 =>
                    have H := HA.out
                    clear HA
                    simp only [dist_Bind.l1] at H
                    by_cases c45 : x73_2 < (l0.length : Int)
                    · rw [if_pos c45] at H
                      have c45b0 : decide (x73_2 < (l0.length : Int)) = true := decide_eq_true c45
                      clear c45
                      by_cases c46 : 0 ≤ x73_2
                      · rw [if_pos c46] at H
                        have c46b0 : decide (0 ≤ x73_2) = true := decide_eq_true c46
                        clear c46
                        by_cases c47 : x73_2 < (l0.length : Int)
                        · rw [if_pos c47] at H
                          have c47b0 : decide (x73_2 < (l0.length : Int)) = true := decide_eq_true c47
                          clear c47
                          by_cases c48 : x73_2 < (x7_1.length : Int)
                          · rw [if_pos c48] at H
                            have c48b0 : decide (x73_2 < (x7_1.length : Int)) = true := decide_eq_true c48
                            clear c48
                            replace H := Option.bind_eq_some_iff.mp H
                            obtain ⟨t199, A490, H⟩ := H
                            replace H : (if t199 = 0 then (none) else (dist_Bind.l2 k2 x7_1 x8_1 x14_2 (wrap64 (Int.tdiv x8_1 t199)) l0 (l0.length : Int) x73_2 (rd_L3 x7_1 x73_2) ((rd_L3 x7_1 x73_2).length : Int) 0 ((rd_T32 l0 x73_2).f0) ((rd_T32 l0 x73_2).f1))) = some (r1, r2) := H
                            have A49 := Aside0.mk A490
                            clear A490
                            by_cases c50 : t199 = 0
                            · rw [if_pos c50] at H
                              exact absurd H (by simp)
                            · rw [if_neg c50] at H
                              have c50b0 : (t199 == 0) = false := beq_eq_false_iff_ne.mpr c50
                              have c50b1 : (t199 != 0) = true := bne_iff_ne.mpr c50
                              have H' := Aside0.mk H
                              clear H
                              have p196 : 0 ≤ (x73_2 : Int) := of_decide_eq_true (by first | (with_reducible assumption) | assumption)
                              have q196 : x73_2 < (l0.length : Int) := of_decide_eq_true (by first | (with_reducible assumption) | assumption)
                              obtain ⟨ad196, A196_0, c196_0, e196, hx196_0, hx196_1, hl196_0, hi196_0⟩ := at_T32 HR0.out x73_2 p196 q196
                              cases e196
                              replace hx196_0 := (HB.out.cell (World.block_lt_of_cell? w _ hx196_0)).trans hx196_0
                              replace hx196_1 := (HB.out.cell (World.block_lt_of_cell? w _ hx196_1)).trans hx196_1
                              have HR196_0 := Aside0.mk hi196_0
                              have HC196_0 := Aside0.mk hl196_0
                              clear hi196_0 hl196_0
                              replace p196 := eq_true p196
                              replace q196 := eq_true q196
                              go_wp2_with (first | ((with_reducible refine gate_dst (N := 16) rfl ?_); refine box_event ?hg (N := 16) ?hd (cs := #[.slice none 0 0, .int .i64 0]) (t := 32) ?hr ?_; (case hd => rfl); (case hg => rfl); (case hr => first | (go_simp; done) | (go_simp; rfl)); intro gb197 hg w51 hbox hb; have n0_ := Aside0.mk (Kd.N_below (Kd.N_elderB (by (with_reducible repeat (first | apply Kd.N_alloc | apply Kd.N_drewN | apply Kd.N_drew)); exact HO_7.out) gb197 (Nat.le_of_eq hg.symm)) hb); have n1_ := Aside0.mk (Kd.N_below (Kd.N_elderB (by (with_reducible repeat (first | apply Kd.N_alloc | apply Kd.N_drewN | apply Kd.N_drew)); exact HO_14.out) gb197 (Nat.le_of_eq hg.symm)) hb); have n2_ := Aside0.mk (below_step (by repeat (first | (with_reducible first | exact HB.out | apply below_alloc | apply pw_below_drewN | apply below_drew1) | exact HB.out)) hb); have n3_ := Aside0.mk (hbox); have n4_ := Aside0.mk ((by rw [hg]; exact (below_size (by repeat (first | (with_reducible first | exact HB.out | apply below_alloc | apply pw_below_drewN | apply below_drew1) | exact HB.out))) : w.heap.size ≤ gb197)); have n5_ := Aside0.mk ((by rw [hg]; exact (below_size (by repeat (first | (with_reducible first | exact HB.out | apply below_alloc | apply pw_below_drewN | apply below_drew1) | exact HB.out))) : w.heap.size ≤ gb197)); clear HO_7; clear HO_14; clear HB; have HO_7 := n0_; have HO_14 := n1_; have HB := n2_; have BK197 := n3_; have GW197 := n4_; have GE197 := n5_; clear n0_ n1_ n2_ n3_ n4_ n5_; clear hb hbox hg; have hcz52_0 : w51.cell? ⟨gb197, 0, none⟩ = some (.slice none 0 0) := (blk_cell BK197.out 0).trans rfl; have hcz52_1 : w51.cell? ⟨gb197, 1, none⟩ = some (.int .i64 0) := (blk_cell BK197.out 1).trans rfl; have hfz52_0 := blk_frozen BK197.out 0; have hfz52_1 := blk_frozen BK197.out 1) | ((with_reducible refine gate_store (t := 32) (p := 16) rfl ?_); refine store_event (t := 32) (p := 16) (v := ?vo_w53) (w1 := ((w51.setCell ⟨gb197, 0, none⟩ (.slice A196_0 ((rd_T32 l0 x73_2).f0).length c196_0)).setCell ⟨gb197, 1, none⟩ (.int .i64 ((rd_T32 l0 x73_2).f1)))) ?hg ?ho ?hn ?hr ?_; (case ho => rfl); (case hg => rfl); (case hn => rfl); (case hr => first | (go_simp; done) | (go_simp; rfl)); intro w53 hw; have n0_ : Aside0 (Kd.N (Kd.slice 32 k32) 23 w53 w.heap.size (fun k_ => (P1_ k_ ∨ w.heap.size ≤ k_) ∧ some k_ ≠ (u14 : Value).ownBlock ∧ k_ ≠ gb197) v176 x7_1) := ⟨(by rw [hw]; exact (by (with_reducible repeat (first | apply Kd.N_alloc | apply Kd.N_drewN | apply Kd.N_drew)); exact Kd.N_mono (Kd.N_far (p := ⟨gb197, 1, none⟩) (Kd.N_far (p := ⟨gb197, 0, none⟩) (Kd.N_mono HO_7.out (fun k_ hk => (⟨hk, hk.2⟩ : _ ∧ k_ ≠ gb197))) (fun _ hk => hk.2) (.slice A196_0 ((rd_T32 l0 x73_2).f0).length c196_0)) (fun _ hk => hk.2) (.int .i64 ((rd_T32 l0 x73_2).f1))) (fun _ hk => ⟨hk.1.1.1, ⟨hk.1.1.2, hk.1.2⟩⟩)))⟩; have n1_ : Aside0 (Kd.N k32 32 w53 w.heap.size (fun k_ => (w.heap.size ≤ k_) ∧ some k_ ≠ (v176 : Value).ownBlock ∧ k_ ≠ gb197) u14 x14_2) := ⟨(by rw [hw]; exact (by (with_reducible repeat (first | apply Kd.N_alloc | apply Kd.N_drewN | apply Kd.N_drew)); exact Kd.N_mono (Kd.N_far (p := ⟨gb197, 1, none⟩) (Kd.N_far (p := ⟨gb197, 0, none⟩) (Kd.N_mono HO_14.out (fun k_ hk => (⟨hk, hk.2⟩ : _ ∧ k_ ≠ gb197))) (fun _ hk => hk.2) (.slice A196_0 ((rd_T32 l0 x73_2).f0).length c196_0)) (fun _ hk => hk.2) (.int .i64 ((rd_T32 l0 x73_2).f1))) (fun _ hk => ⟨hk.1.1.1, ⟨hk.1.1.2, hk.1.2⟩⟩)))⟩; have n2_ : Aside0 (w53.heap[gb197]? = some (.cells #[.slice A196_0 ((rd_T32 l0 x73_2).f0).length c196_0, .int .i64 ((rd_T32 l0 x73_2).f1)] 32 (0, 0))) := ⟨(by rw [hw]; exact (by (with_reducible repeat (first | refine blk_drewN ?_ _ | refine blk_drew ?_ | refine blk_alloc ?_ _)); refine blk_put (cs := #[.slice A196_0 ((rd_T32 l0 x73_2).f0).length c196_0, .int .i64 0]) ?_ 1 _ rfl; (with_reducible repeat (first | refine blk_drewN ?_ _ | refine blk_drew ?_ | refine blk_alloc ?_ _)); refine blk_put (cs := #[.slice none 0 0, .int .i64 0]) ?_ 0 _ rfl; (with_reducible repeat (first | refine blk_drewN ?_ _ | refine blk_drew ?_ | refine blk_alloc ?_ _)); exact BK197.out))⟩; have n3_ : Aside0 (Below w.heap.size w w53) := ⟨(by rw [hw]; exact (by repeat (first | (with_reducible first | exact HB.out | apply below_alloc | apply pw_below_drewN | apply below_drew1 | refine below_set ?_ GE197.out) | exact HB.out)))⟩; clear hw; clear HO_7; clear HO_14; clear BK197; clear HB; have HO_7 := n0_; have HO_14 := n1_; have BK197 := n2_; have HB := n3_; clear n0_ n1_ n2_ n3_; obtain ⟨Ao54, co54, eo54⟩ := Kd.N_slice HO_7.out; subst eo54; have p198 : 0 ≤ (x73_2 : Int) := of_decide_eq_true (by first | (with_reducible assumption) | assumption); have q198 : x73_2 < (x7_1.length : Int) := of_decide_eq_true (by first | (with_reducible assumption) | assumption); obtain ⟨ad198, A198_0, c198_0, e198, hx198_0, hl198_0, hi198_0⟩ := at_L3 (Kd.N_reads' HO_7.out).2.2 x73_2 p198 q198; cases e198; obtain ⟨ce198, hce198, hMe198, hcc198⟩ := Kd.N_get HO_7.out [] x73_2 p198 (by first | exact q198 | exact of_decide_eq_true (by first | (with_reducible assumption) | assumption) | (have e_ := (Kd.N_reads' HO_7.out).1; omega)); obtain ⟨ua198_0, uc198_0, rfl, ul198_0, ge198_0⟩ := Kd.FK_slice_open hMe198; have hv198_0 := hcc198 0 _ rfl; rw [Nat.add_zero, show ((Kd.slice 32 k32)).sz = 1 from rfl, Nat.mul_one] at hv198_0; replace hv198_0 := Option.some.inj (hv198_0.symm.trans hx198_0); injection hv198_0 with hva_ hvn_ hvc_; rw [hva_] at ge198_0; rw [hvc_] at ul198_0; have HL198_0 := Aside0.mk (show Kd.V k32 32 _ w.heap.size _ _ (rd_L3 x7_1 x73_2) from Kd.V_mk ul198_0 ge198_0); clear hva_ hvn_ hvc_ ge198_0 ul198_0; clear hcc198 hce198; have HR198_0 := Aside0.mk hi198_0; have HC198_0 := Aside0.mk hl198_0; clear hi198_0 hl198_0; replace p198 := eq_true p198; replace q198 := eq_true q198) | ((with_reducible refine gate_callee (f := 48) rfl ?_); refine goesL_ (some 83) rfl rfl Try.func48 (by kernel_rfl) rfl #[.slice A198_0 (rd_L3 x7_1 x73_2).length c198_0] rfl (by (try simp only [List.map_toArray, List.map_cons, List.map_nil]); first | done | rfl | (simp only [List.length_drop, List.length_take]; rfl)) ?_; (with_reducible refine (dist_total.calls k2 _ _ (rd_L3 x7_1 x73_2) t199 _ ?side1 ?side2 A49.out).mono ?_); (case side1 => repeat (first | exact (by repeat (first | (with_reducible exact HR198_0.out) | (with_reducible refine Kd.C_alloc ?_ _) | (with_reducible refine Kd.C_drewN ?_ _) | (with_reducible refine Kd.C_drew ?_) | exact HR198_0.out)) | (with_reducible refine Kd.C_alloc ?_ _) | (with_reducible refine Kd.C_drewN ?_ _) | (with_reducible refine Kd.C_drew ?_))); (case side2 => exact HC198_0.out); rintro e w55 ⟨rfl, hb⟩; refine ⟨_, rfl, ?_⟩; have n0_ := Aside0.mk (Kd.N_below (by (with_reducible repeat (first | apply Kd.N_alloc | apply Kd.N_drewN | apply Kd.N_drew)); exact HO_7.out) hb); have n1_ := Aside0.mk (Kd.N_below (by (with_reducible repeat (first | apply Kd.N_alloc | apply Kd.N_drewN | apply Kd.N_drew)); exact HO_14.out) hb); have n2_ := Aside0.mk (Kd.V_below (by (with_reducible repeat (first | apply Kd.V_alloc | apply Kd.V_drewN | apply Kd.V_drew)); exact HL198_0.out) hb); have n3_ := Aside0.mk (blk_below (g := gb197) (o := .cells #[.slice A196_0 ((rd_T32 l0 x73_2).f0).length c196_0, .int .i64 ((rd_T32 l0 x73_2).f1)] 32 (0, 0)) (by (with_reducible repeat (first | refine blk_drewN ?_ _ | refine blk_drew ?_ | refine blk_alloc ?_ _)); exact BK197.out) hb); have n4_ := Aside0.mk (Kd.C_below (by repeat (first | (with_reducible exact HR198_0.out) | (with_reducible refine Kd.C_alloc ?_ _) | (with_reducible refine Kd.C_drewN ?_ _) | (with_reducible refine Kd.C_drew ?_) | exact HR198_0.out)) hb); have n5_ := Aside0.mk (below_step (by repeat (first | (with_reducible first | exact HB.out | apply below_alloc | apply pw_below_drewN | apply below_drew1 | refine below_set ?_ GE197.out) | exact HB.out)) hb); clear HO_7; clear HO_14; clear HL198_0; clear BK197; clear HR198_0; clear HB; have HO_7 := n0_; have HO_14 := n1_; have HL198_0 := n2_; have BK197 := n3_; have HR198_0 := n4_; have HB := n5_; clear n0_ n1_ n2_ n3_ n4_ n5_; (try clear hb); (try clear hb2); (try clear hk); (try clear hi); have p200 : 0 ≤ (x73_2 : Int) := of_decide_eq_true (by first | (with_reducible assumption) | assumption); have q200 : x73_2 < (x7_1.length : Int) := of_decide_eq_true (by first | (with_reducible assumption) | assumption); obtain ⟨ad200, A200_0, c200_0, e200, hx200_0, hl200_0, hi200_0⟩ := at_L3 (Kd.N_reads' HO_7.out).2.2 x73_2 p200 q200; obtain rfl : ad198 = ad200 := (by injection e200); obtain ⟨ce200, hce200, hMe200, hcc200⟩ := Kd.N_get HO_7.out [] x73_2 p200 (by first | exact q200 | exact of_decide_eq_true (by first | (with_reducible assumption) | assumption) | (have e_ := (Kd.N_reads' HO_7.out).1; omega)); obtain ⟨ua200_0, uc200_0, rfl, ul200_0, ge200_0⟩ := Kd.FK_slice_open hMe200; have hv200_0 := hcc200 0 _ rfl; rw [Nat.add_zero, show ((Kd.slice 32 k32)).sz = 1 from rfl, Nat.mul_one] at hv200_0; replace hv200_0 := Option.some.inj (hv200_0.symm.trans hx200_0); injection hv200_0 with hva_ hvn_ hvc_; rw [hva_] at ge200_0; rw [hvc_] at ul200_0; have HL200_0 := Aside0.mk (show Kd.V k32 32 _ w.heap.size _ _ (rd_L3 x7_1 x73_2) from Kd.V_mk ul200_0 ge200_0); clear hva_ hvn_ hvc_ ge200_0 ul200_0; clear hcc200 hce200; have HR200_0 := Aside0.mk hi200_0; have HC200_0 := Aside0.mk hl200_0; clear hi200_0 hl200_0; replace p200 := eq_true p200; replace q200 := eq_true q200))
                              go_loopg [14, 90] k2 (fun kq v14 v90 w' => ∃ (x14_3 : List (S32)) (x90_3 : Int), v90 = .int .i64 x90_3 ∧ Aside0 (dist_Bind.l2 kq x7_1 x8_1 x14_3 (wrap64 (Int.tdiv x8_1 t199)) l0 (l0.length : Int) x73_2 (rd_L3 x7_1 x73_2) ((rd_L3 x7_1 x73_2).length : Int) x90_3 ((rd_T32 l0 x73_2).f0) ((rd_T32 l0 x73_2).f1) = some (r1, r2)) ∧ Aside0 (kq ≤ k2) ∧ Aside0 (Kd.N (Kd.slice 32 k32) 23 w' w.heap.size (fun k_ => (P1_ k_ ∨ w.heap.size ≤ k_) ∧ some k_ ≠ (v14 : Value).ownBlock ∧ k_ ≠ gb197) (.slice (some ad198) x7_1.length co54) x7_1) ∧ Aside0 (Kd.V k32 32 w' w.heap.size (fun k_ => (P1_ k_ ∨ w.heap.size ≤ k_) ∧ some k_ ≠ (v14 : Value).ownBlock ∧ k_ ≠ gb197) (.slice A200_0 (rd_L3 x7_1 x73_2).length c200_0) (rd_L3 x7_1 x73_2)) ∧ Aside0 (Kd.N k32 32 w' w.heap.size (fun k_ => (w.heap.size ≤ k_) ∧ some k_ ≠ ((.slice (some ad198) x7_1.length co54) : Value).ownBlock ∧ k_ ≠ gb197) v14 x14_3) ∧ Aside0 (w'.heap[gb197]? = some (.cells #[(.slice A196_0 ((rd_T32 l0 x73_2).f0).length c196_0), .int .i64 ((rd_T32 l0 x73_2).f1)] 32 (0, 0))) ∧ Aside0 (Below w.heap.size w w'))
                              case atStart => exact ⟨(x14_2), (0), (by first | rfl | (simp; done) | (simp [*]; done)), H', ⟨Nat.le_refl _⟩, ⟨by (with_reducible repeat (first | apply Kd.N_alloc | apply Kd.N_drewN | apply Kd.N_drew)); exact HO_7.out⟩, ⟨by (with_reducible repeat (first | apply Kd.V_alloc | apply Kd.V_drewN | apply Kd.V_drew)); exact Kd.V_mono HL200_0.out (fun _ hk => hk.1)⟩, ⟨by (with_reducible repeat (first | apply Kd.N_alloc | apply Kd.N_drewN | apply Kd.N_drew)); exact HO_14.out⟩, ⟨by (with_reducible repeat (first | refine blk_drewN ?_ _ | refine blk_drew ?_ | refine blk_alloc ?_ _)); exact BK197.out⟩, ⟨by repeat (first | (with_reducible first | exact HB.out | apply below_alloc | apply pw_below_drewN | apply below_drew1 | refine below_set ?_ GE197.out) | exact HB.out)⟩⟩
                              case round =>
                                clear H'
                                try clear c1
                                try clear p1
                                try clear q1
                                try clear hx1
                                try clear c2
                                try clear p2
                                try clear q2
                                try clear hx2
                                try clear hf2
                                try clear c3
                                try clear hx3
                                try clear hf3
                                try clear c4
                                try clear c4b0
                                try clear c4b1
                                try clear c5
                                try clear c5b0
                                try clear c5b1
                                try clear c6
                                try clear c6b0
                                try clear c6b1
                                try clear p6
                                try clear c10
                                try clear c10b0
                                try clear c11
                                try clear c11b0
                                try clear c12
                                try clear c12b0
                                try clear c13
                                try clear c17
                                try clear p17
                                try clear q17
                                try clear hx17
                                try clear c19
                                try clear p19
                                try clear q19
                                try clear hx19
                                try clear c20
                                try clear p20
                                try clear q20
                                try clear hx20
                                try clear c21
                                try clear c21b0
                                try clear c21b1
                                try clear c25
                                try clear c25b0
                                try clear c25b1
                                try clear c26
                                try clear c26b0
                                try clear c27
                                try clear c27b0
                                try clear c28
                                try clear p28
                                try clear q28
                                try clear hx28
                                try clear hf28
                                try clear c31
                                try clear c31b0
                                try clear c31b1
                                try clear c32
                                try clear c32b0
                                try clear c33
                                try clear hx33
                                try clear hf33
                                try clear c37
                                try clear hx37
                                try clear hf37
                                try clear c40
                                try clear c42
                                try clear c42b0
                                try clear c45
                                try clear c45b0
                                try clear c46
                                try clear c46b0
                                try clear c47
                                try clear c47b0
                                try clear c48
                                try clear c48b0
                                try clear c50
                                try clear c50b0
                                try clear c50b1
                                try clear c52
                                try clear c54
                                try clear c55
                                try clear hcz17_0
                                try clear hcz17_1
                                try clear hcz52_0
                                try clear hcz52_1
                                try clear hfz17_0
                                try clear hfz17_1
                                try clear hfz52_0
                                try clear hfz52_1
                                try clear hx178_0
                                try clear hx178_1
                                try clear hx196_0
                                try clear hx196_1
                                try clear hx198_0
                                try clear hx200_0
                                try clear hx28_0
                                try clear hx33_0
                                try clear hx37_0
                                try clear p1
                                try clear p17
                                try clear p178
                                try clear p196
                                try clear p198
                                try clear p2
                                try clear p200
                                try clear p28
                                try clear p6
                                try clear q1
                                try clear q17
                                try clear q178
                                try clear q196
                                try clear q198
                                try clear q2
                                try clear q200
                                try clear q28
                                obtain ⟨x14_3, x90_3, rfl, HA, HK3, HO_7, HQ200, HO_14, BK197, HB⟩ := hrel
                                cases gk with
                                | zero => exact absurd HA.out (by simp [dist_Bind.l2])
                                | succ k3 =>
                                  have H := HA.out
                                  clear HA
                                  simp only [dist_Bind.l2] at H
                                  by_cases c56 : x90_3 < ((rd_L3 x7_1 x73_2).length : Int)
                                  · rw [if_pos c56] at H
                                    have c56b0 : decide (x90_3 < ((rd_L3 x7_1 x73_2).length : Int)) = true := decide_eq_true c56
                                    clear c56
                                    by_cases c57 : 0 ≤ x90_3
                                    · rw [if_pos c57] at H
                                      have c57b0 : decide (0 ≤ x90_3) = true := decide_eq_true c57
                                      clear c57
                                      by_cases c58 : x90_3 < ((rd_L3 x7_1 x73_2).length : Int)
                                      · rw [if_pos c58] at H
                                        have c58b0 : decide (x90_3 < ((rd_L3 x7_1 x73_2).length : Int)) = true := decide_eq_true c58
                                        clear c58
                                        replace H := Option.bind_eq_some_iff.mp H
                                        obtain ⟨t203, A590, H⟩ := H
                                        replace H : (if x14_3.length < 4398046511104 then (dist_Bind.l2 k3 x7_1 x8_1 (x14_3 ++ [(⟨t203, wrap64 ((wrap64 (((rd_T32 l0 x73_2).f1) * (wrap64 (Int.tdiv x8_1 t199)))) * ((rd_T32 (rd_L3 x7_1 x73_2) x90_3).f1))⟩ : S32)]) (wrap64 (Int.tdiv x8_1 t199)) l0 (l0.length : Int) x73_2 (rd_L3 x7_1 x73_2) ((rd_L3 x7_1 x73_2).length : Int) (wrap64 (x90_3 + 1)) ((rd_T32 l0 x73_2).f0) ((rd_T32 l0 x73_2).f1)) else (none)) = some (r1, r2) := H
                                        have A59 := Aside0.mk A590
                                        clear A590
                                        by_cases c60 : x14_3.length < 4398046511104
                                        · rw [if_pos c60] at H
                                          have LMc60 := Aside0.mk c60
                                          clear c60
                                          obtain ⟨y206, hy206⟩ : ∃ y_ : List (S32), y_ = (x14_3 ++ [(⟨t203, wrap64 ((wrap64 (((rd_T32 l0 x73_2).f1) * (wrap64 (Int.tdiv x8_1 t199)))) * ((rd_T32 (rd_L3 x7_1 x73_2) x90_3).f1))⟩ : S32)]) := ⟨_, rfl⟩
                                          replace H : (dist_Bind.l2 k3 x7_1 x8_1 y206 (wrap64 (Int.tdiv x8_1 t199)) l0 (l0.length : Int) x73_2 (rd_L3 x7_1 x73_2) ((rd_L3 x7_1 x73_2).length : Int) (wrap64 (x90_3 + 1)) ((rd_T32 l0 x73_2).f0) ((rd_T32 l0 x73_2).f1)) = some (r1, r2) := by first | (rw [hy206]; with_reducible exact H) | (have H2_ := (Option.bind_some _ _).symm.trans H; rw [hy206]; with_reducible exact H2_) | (have H2_ := (Option.bind_some _ _).symm.trans H; with_reducible exact H2_) | with_reducible exact H | (rw [hy206]; exact H) | exact H
                                          have Ny206 := Aside0.mk hy206
                                          clear hy206
                                          have H' := Aside0.mk H
                                          clear H
                                          have p201 : 0 ≤ (x90_3 : Int) := of_decide_eq_true (by first | (with_reducible assumption) | assumption)
                                          have q201 : x90_3 < ((rd_L3 x7_1 x73_2).length : Int) := of_decide_eq_true (by first | (with_reducible assumption) | assumption)
                                          obtain ⟨ad201, A201_0, c201_0, e201, hx201_0, hx201_1, hl201_0, hi201_0⟩ := at_T32 (Kd.V_reads' HQ200.out).2.2 x90_3 p201 q201
                                          cases e201
                                          obtain ⟨ce201, hce201, hMe201, hcc201⟩ := Kd.V_get HQ200.out ⟨[], 0⟩ x90_3 p201 q201
                                          obtain ⟨ua201, uc201, rfl, ul201, ge201⟩ := k32_openF hMe201
                                          have hv201 := hcc201 0 _ rfl
                                          rw [Nat.add_zero, show k32.sz = 2 from rfl] at hv201
                                          replace hv201 := Option.some.inj (hv201.symm.trans hx201_0)
                                          injection hv201 with hva_ hvn_ hvc_; rw [hva_] at ge201; rw [hvc_] at ul201
                                          have HE201 := Aside0.mk (show Kd.V (Kd.int .i64) 3 _ w.heap.size _ (.slice A201_0 ((rd_T32 (rd_L3 x7_1 x73_2) x90_3).f0).length c201_0) ((rd_T32 (rd_L3 x7_1 x73_2) x90_3).f0) from Kd.V_mk ul201 ge201)
                                          clear hva_ hvn_ hvc_ ge201 ul201 hcc201 hce201
                                          have HR201_0 := Aside0.mk hi201_0
                                          have HC201_0 := Aside0.mk hl201_0
                                          clear hi201_0 hl201_0
                                          replace p201 := eq_true p201
                                          replace q201 := eq_true q201
                                          try go_wp2_with (first | ((with_reducible refine gate_dst (N := 19) rfl ?_); refine box_event ?hg (N := 19) ?hd (cs := #[.slice none 0 0, .int .i64 0]) (t := 32) ?hr ?_; (case hd => rfl); (case hg => rfl); (case hr => first | (go_simp; done) | (go_simp; rfl)); intro gb202 hg w61 hbox hb; have n0_ := Aside0.mk (Kd.N_below (Kd.N_elderB (by (with_reducible repeat (first | apply Kd.N_alloc | apply Kd.N_drewN | apply Kd.N_drew)); exact HO_7.out) gb202 (Nat.le_of_eq hg.symm)) hb); have nq200_ := Aside0.mk (Kd.V_below (Kd.V_elderB (by (with_reducible repeat (first | apply Kd.V_alloc | apply Kd.V_drewN | apply Kd.V_drew)); exact HQ200.out) gb202 (Nat.le_of_eq hg.symm)) hb); have ne201_ := Aside0.mk (Kd.V_below (Kd.V_elderB (by (with_reducible repeat (first | apply Kd.V_alloc | apply Kd.V_drewN | apply Kd.V_drew)); exact HE201.out) gb202 (Nat.le_of_eq hg.symm)) hb); have n1_ := Aside0.mk (Kd.N_below (Kd.N_elderB (by (with_reducible repeat (first | apply Kd.N_alloc | apply Kd.N_drewN | apply Kd.N_drew)); exact HO_14.out) gb202 (Nat.le_of_eq hg.symm)) hb); have n2_ := Aside0.mk (blk_below (g := gb197) (o := .cells #[.slice A196_0 ((rd_T32 l0 x73_2).f0).length c196_0, .int .i64 ((rd_T32 l0 x73_2).f1)] 32 (0, 0)) (by (with_reducible repeat (first | refine blk_drewN ?_ _ | refine blk_drew ?_ | refine blk_alloc ?_ _)); exact BK197.out) hb); have n3_ := Aside0.mk (below_step (by repeat (first | (with_reducible first | exact HB.out | apply below_alloc | apply pw_below_drewN | apply below_drew1 | refine below_set ?_ GE197.out) | exact HB.out)) hb); have n4_ := Aside0.mk (hbox); have n5_ := Aside0.mk ((by rw [hg]; exact (below_size (by repeat (first | (with_reducible first | exact HB.out | apply below_alloc | apply pw_below_drewN | apply below_drew1 | refine below_set ?_ GE197.out) | exact HB.out))) : w.heap.size ≤ gb202)); have n6_ := Aside0.mk ((by rw [hg]; exact (below_size (by repeat (first | (with_reducible first | exact HB.out | apply below_alloc | apply pw_below_drewN | apply below_drew1 | refine below_set ?_ GE197.out) | exact HB.out))) : w.heap.size ≤ gb202)); have n7_ := Aside0.mk ((by rw [hg]; exact Nat.ne_of_lt (blk_lt (g := gb197) (o := .cells #[.slice A196_0 ((rd_T32 l0 x73_2).f0).length c196_0, .int .i64 ((rd_T32 l0 x73_2).f1)] 32 (0, 0)) (by (with_reducible repeat (first | refine blk_drewN ?_ _ | refine blk_drew ?_ | refine blk_alloc ?_ _)); exact BK197.out)) : gb197 ≠ gb202)); have n8_ := Aside0.mk ((by rw [hg]; exact Nat.ne_of_gt (blk_lt (g := gb197) (o := .cells #[.slice A196_0 ((rd_T32 l0 x73_2).f0).length c196_0, .int .i64 ((rd_T32 l0 x73_2).f1)] 32 (0, 0)) (by (with_reducible repeat (first | refine blk_drewN ?_ _ | refine blk_drew ?_ | refine blk_alloc ?_ _)); exact BK197.out)) : gb202 ≠ gb197)); clear HO_7; clear HE201; clear HQ200; clear HO_14; clear BK197; clear HB; have HO_7 := n0_; have HE201 := ne201_; have HQ200 := nq200_; have HO_14 := n1_; have BK197 := n2_; have HB := n3_; have BK202 := n4_; have GW202 := n5_; have GE202 := n6_; have NB197_202 := n7_; have NB202_197 := n8_; clear nq200_ n0_ n1_ n2_ n3_ n4_ n5_ n6_ n7_ n8_; clear hb hbox hg; have hnb62 := NB202_197.out; have hnc62 := NB197_202.out; have hcz63_0 : w61.cell? ⟨gb202, 0, none⟩ = some (.slice none 0 0) := (blk_cell BK202.out 0).trans rfl; have hcz63_1 : w61.cell? ⟨gb202, 1, none⟩ = some (.int .i64 0) := (blk_cell BK202.out 1).trans rfl; have hfz63_0 := blk_frozen BK202.out 0; have hfz63_1 := blk_frozen BK202.out 1))
                                          have n0_ : Aside0 (Kd.N (Kd.slice 32 k32) 23 ((w61.setCell ⟨gb202, 0, none⟩ (.slice A201_0 ((rd_T32 (rd_L3 x7_1 x73_2) x90_3).f0).length c201_0)).setCell ⟨gb202, 1, none⟩ (.int .i64 ((rd_T32 (rd_L3 x7_1 x73_2) x90_3).f1))) w.heap.size (fun k_ => (P1_ k_ ∨ w.heap.size ≤ k_) ∧ some k_ ≠ (u14 : Value).ownBlock ∧ k_ ≠ gb197 ∧ k_ ≠ gb202) (.slice (some ad198) x7_1.length co54) x7_1) := ⟨by (with_reducible repeat (first | apply Kd.N_alloc | apply Kd.N_drewN | apply Kd.N_drew)); exact Kd.N_mono (Kd.N_far (p := ⟨gb202, 1, none⟩) (Kd.N_far (p := ⟨gb202, 0, none⟩) (Kd.N_mono HO_7.out (fun k_ hk => (⟨hk, hk.2⟩ : _ ∧ k_ ≠ gb202))) (fun _ hk => hk.2) (.slice A201_0 ((rd_T32 (rd_L3 x7_1 x73_2) x90_3).f0).length c201_0)) (fun _ hk => hk.2) (.int .i64 ((rd_T32 (rd_L3 x7_1 x73_2) x90_3).f1))) (fun _ hk => ⟨hk.1.1.1, ⟨hk.1.1.2.1, ⟨hk.1.1.2.2, hk.1.2⟩⟩⟩)⟩
                                          have nq200_ : Aside0 (Kd.V k32 32 ((w61.setCell ⟨gb202, 0, none⟩ (.slice A201_0 ((rd_T32 (rd_L3 x7_1 x73_2) x90_3).f0).length c201_0)).setCell ⟨gb202, 1, none⟩ (.int .i64 ((rd_T32 (rd_L3 x7_1 x73_2) x90_3).f1))) w.heap.size (fun k_ => (P1_ k_ ∨ w.heap.size ≤ k_) ∧ some k_ ≠ (u14 : Value).ownBlock ∧ k_ ≠ gb197 ∧ k_ ≠ gb202) (.slice (some ad201) (rd_L3 x7_1 x73_2).length c200_0) (rd_L3 x7_1 x73_2)) := ⟨by (with_reducible repeat (first | apply Kd.V_alloc | apply Kd.V_drewN | apply Kd.V_drew)); exact Kd.V_mono (Kd.V_far (p := ⟨gb202, 1, none⟩) (Kd.V_far (p := ⟨gb202, 0, none⟩) (Kd.V_mono HQ200.out (fun k_ hk => (⟨hk, hk.2⟩ : _ ∧ k_ ≠ gb202))) (fun _ hk => hk.2) (.slice A201_0 ((rd_T32 (rd_L3 x7_1 x73_2) x90_3).f0).length c201_0)) (fun _ hk => hk.2) (.int .i64 ((rd_T32 (rd_L3 x7_1 x73_2) x90_3).f1))) (fun _ hk => ⟨hk.1.1.1, ⟨hk.1.1.2.1, ⟨hk.1.1.2.2, hk.1.2⟩⟩⟩)⟩
                                          have ne201_ : Aside0 (Kd.V (Kd.int .i64) 3 ((w61.setCell ⟨gb202, 0, none⟩ (.slice A201_0 ((rd_T32 (rd_L3 x7_1 x73_2) x90_3).f0).length c201_0)).setCell ⟨gb202, 1, none⟩ (.int .i64 ((rd_T32 (rd_L3 x7_1 x73_2) x90_3).f1))) w.heap.size (fun k_ => (P1_ k_ ∨ w.heap.size ≤ k_) ∧ some k_ ≠ (u14 : Value).ownBlock ∧ k_ ≠ gb197 ∧ k_ ≠ gb202) (.slice A201_0 ((rd_T32 (rd_L3 x7_1 x73_2) x90_3).f0).length c201_0) ((rd_T32 (rd_L3 x7_1 x73_2) x90_3).f0)) := ⟨by (with_reducible repeat (first | apply Kd.V_alloc | apply Kd.V_drewN | apply Kd.V_drew)); exact Kd.V_mono (Kd.V_far (p := ⟨gb202, 1, none⟩) (Kd.V_far (p := ⟨gb202, 0, none⟩) (Kd.V_mono HE201.out (fun k_ hk => (⟨hk, hk.2⟩ : _ ∧ k_ ≠ gb202))) (fun _ hk => hk.2) (.slice A201_0 ((rd_T32 (rd_L3 x7_1 x73_2) x90_3).f0).length c201_0)) (fun _ hk => hk.2) (.int .i64 ((rd_T32 (rd_L3 x7_1 x73_2) x90_3).f1))) (fun _ hk => ⟨hk.1.1.1, ⟨hk.1.1.2.1, ⟨hk.1.1.2.2, hk.1.2⟩⟩⟩)⟩
                                          have n1_ : Aside0 (Kd.N k32 32 ((w61.setCell ⟨gb202, 0, none⟩ (.slice A201_0 ((rd_T32 (rd_L3 x7_1 x73_2) x90_3).f0).length c201_0)).setCell ⟨gb202, 1, none⟩ (.int .i64 ((rd_T32 (rd_L3 x7_1 x73_2) x90_3).f1))) w.heap.size (fun k_ => (w.heap.size ≤ k_) ∧ some k_ ≠ (.slice (some ad198) x7_1.length co54 : Value).ownBlock ∧ k_ ≠ gb197 ∧ k_ ≠ gb202) u14 x14_3) := ⟨by (with_reducible repeat (first | apply Kd.N_alloc | apply Kd.N_drewN | apply Kd.N_drew)); exact Kd.N_mono (Kd.N_far (p := ⟨gb202, 1, none⟩) (Kd.N_far (p := ⟨gb202, 0, none⟩) (Kd.N_mono HO_14.out (fun k_ hk => (⟨hk, hk.2⟩ : _ ∧ k_ ≠ gb202))) (fun _ hk => hk.2) (.slice A201_0 ((rd_T32 (rd_L3 x7_1 x73_2) x90_3).f0).length c201_0)) (fun _ hk => hk.2) (.int .i64 ((rd_T32 (rd_L3 x7_1 x73_2) x90_3).f1))) (fun _ hk => ⟨hk.1.1.1, ⟨hk.1.1.2.1, ⟨hk.1.1.2.2, hk.1.2⟩⟩⟩)⟩
                                          have n2_ : Aside0 (((w61.setCell ⟨gb202, 0, none⟩ (.slice A201_0 ((rd_T32 (rd_L3 x7_1 x73_2) x90_3).f0).length c201_0)).setCell ⟨gb202, 1, none⟩ (.int .i64 ((rd_T32 (rd_L3 x7_1 x73_2) x90_3).f1))).heap[gb197]? = some (.cells #[.slice A196_0 ((rd_T32 l0 x73_2).f0).length c196_0, .int .i64 ((rd_T32 l0 x73_2).f1)] 32 (0, 0))) := ⟨by (with_reducible repeat (first | refine blk_drewN ?_ _ | refine blk_drew ?_ | refine blk_alloc ?_ _)); refine blk_far ?_ NB197_202.out _; (with_reducible repeat (first | refine blk_drewN ?_ _ | refine blk_drew ?_ | refine blk_alloc ?_ _)); refine blk_far ?_ NB197_202.out _; (with_reducible repeat (first | refine blk_drewN ?_ _ | refine blk_drew ?_ | refine blk_alloc ?_ _)); exact BK197.out⟩
                                          have n3_ : Aside0 (((w61.setCell ⟨gb202, 0, none⟩ (.slice A201_0 ((rd_T32 (rd_L3 x7_1 x73_2) x90_3).f0).length c201_0)).setCell ⟨gb202, 1, none⟩ (.int .i64 ((rd_T32 (rd_L3 x7_1 x73_2) x90_3).f1))).heap[gb202]? = some (.cells #[.slice A201_0 ((rd_T32 (rd_L3 x7_1 x73_2) x90_3).f0).length c201_0, .int .i64 ((rd_T32 (rd_L3 x7_1 x73_2) x90_3).f1)] 32 (0, 0))) := ⟨by (with_reducible repeat (first | refine blk_drewN ?_ _ | refine blk_drew ?_ | refine blk_alloc ?_ _)); refine blk_put (cs := #[.slice A201_0 ((rd_T32 (rd_L3 x7_1 x73_2) x90_3).f0).length c201_0, .int .i64 0]) ?_ 1 _ rfl; (with_reducible repeat (first | refine blk_drewN ?_ _ | refine blk_drew ?_ | refine blk_alloc ?_ _)); refine blk_put (cs := #[.slice none 0 0, .int .i64 0]) ?_ 0 _ rfl; (with_reducible repeat (first | refine blk_drewN ?_ _ | refine blk_drew ?_ | refine blk_alloc ?_ _)); exact BK202.out⟩
                                          have n4_ : Aside0 (Below w.heap.size w ((w61.setCell ⟨gb202, 0, none⟩ (.slice A201_0 ((rd_T32 (rd_L3 x7_1 x73_2) x90_3).f0).length c201_0)).setCell ⟨gb202, 1, none⟩ (.int .i64 ((rd_T32 (rd_L3 x7_1 x73_2) x90_3).f1)))) := ⟨by repeat (first | (with_reducible first | exact HB.out | apply below_alloc | apply pw_below_drewN | apply below_drew1 | refine below_set ?_ GE197.out | refine below_set ?_ GE202.out) | exact HB.out)⟩
                                          (try clear HO_7)
                                          (try clear HQ200)
                                          (try clear HE201)
                                          (try clear HO_14)
                                          (try clear BK197)
                                          (try clear BK202)
                                          (try clear HB)
                                          generalize ((w61.setCell ⟨gb202, 0, none⟩ (.slice A201_0 ((rd_T32 (rd_L3 x7_1 x73_2) x90_3).f0).length c201_0)).setCell ⟨gb202, 1, none⟩ (.int .i64 ((rd_T32 (rd_L3 x7_1 x73_2) x90_3).f1))) = w64 at ne201_ nq200_ n0_ n1_ n2_ n3_ n4_ ⊢
                                          have HO_7 := n0_
                                          have HQ200 := nq200_
                                          have HE201 := ne201_
                                          have HO_14 := n1_
                                          have BK197 := n2_
                                          have BK202 := n3_
                                          have HB := n4_
                                          clear ne201_ nq200_ n0_ n1_ n2_ n3_ n4_
                                          have n0_ := Aside0.mk (Kd.N_drew HO_7.out)
                                          have nq200_ := Aside0.mk (Kd.V_drew HQ200.out)
                                          have ne201_ := Aside0.mk (Kd.V_drew HE201.out)
                                          have n1_ := Aside0.mk (Kd.N_drew HO_14.out)
                                          have n2_ := Aside0.mk (blk_drew BK197.out)
                                          have n3_ := Aside0.mk (blk_drew BK202.out)
                                          have n4_ := Aside0.mk (below_drew1 HB.out)
                                          clear HO_7
                                          clear HQ200
                                          clear HE201
                                          clear HO_14
                                          clear BK197
                                          clear BK202
                                          clear HB
                                          have HO_7 := n0_
                                          have HQ200 := nq200_
                                          have HE201 := ne201_
                                          have HO_14 := n1_
                                          have BK197 := n2_
                                          have BK202 := n3_
                                          have HB := n4_
                                          clear ne201_ nq200_ n0_ n1_ n2_ n3_ n4_
                                          refine start_ (n := 15) (S := fun w' => w'.cell? ⟨gb202, 0, none⟩ = some (.slice A201_0 ((rd_T32 (rd_L3 x7_1 x73_2) x90_3).f0).length c201_0) ∧ w'.cell? ⟨gb202, 1, none⟩ = some (.int .i64 ((rd_T32 (rd_L3 x7_1 x73_2) x90_3).f1)) ∧ w'.cell? ⟨gb197, 0, none⟩ = some (.slice A196_0 ((rd_T32 l0 x73_2).f0).length c196_0) ∧ w'.cell? ⟨gb197, 1, none⟩ = some (.int .i64 ((rd_T32 l0 x73_2).f1))) (ds := []) #[false, false, false, false, false, false, false, false, false, false, false, false, false, false, false] (by kernel_rfl) rfl rfl ⟨(blk_cell BK202.out 0).trans rfl, (blk_cell BK202.out 1).trans rfl, (blk_cell BK197.out 0).trans rfl, (blk_cell BK197.out 1).trans rfl⟩ (fun hHeld => ?_); refine with_tabW dist_Bind.tab30 dist_Bind.bits30 (fun HT_ HW_ => ?_)
                                          generalize w64.drew = w65 at HO_7 HE201 HQ200 HO_14 BK197 BK202 HB hHeld ⊢
                                          refine pure_ (i := 0) (N := some 94) (v := ?_) (a' := ?_) #[true, false, false, false, false, false, false, false, false, false, false, false, false, false, false] rfl rfl (any_of HT_.out (by kernel_rfl)) (fun _ _ _ h => h) (Or.inl ⟨by rfl, ?_⟩) ?_ ?_
                                          rotate_left
                                          · intro w'
                                            go_simp
                                            with_reducible rfl
                                          rotate_left
                                          · simp only [Act.put, List.setIfInBounds_toArray, List.set_cons_zero, List.set_cons_succ, i64_w, i32_w]
                                            rfl
                                          refine pure_ (i := 1) (N := some 95) (v := ?_) (a' := ?_) #[true, true, false, false, false, false, false, false, false, false, false, false, false, false, false] rfl rfl (any_of HT_.out (by kernel_rfl)) (fun _ _ _ h => h) (Or.inl ⟨by rfl, ?_⟩) ?_ ?_
                                          rotate_left
                                          · intro w'
                                            go_simp
                                            with_reducible rfl
                                          rotate_left
                                          · simp only [Act.put, List.setIfInBounds_toArray, List.set_cons_zero, List.set_cons_succ, i64_w, i32_w]
                                            rfl
                                          refine pure_ (i := 4) (N := some 98) (v := ?_) (a' := ?_) #[true, true, false, false, true, false, false, false, false, false, false, false, false, false, false] rfl rfl (any_of HT_.out (by kernel_rfl)) (fun _ _ _ h => h) (Or.inl ⟨by rfl, ?_⟩) ?_ ?_
                                          rotate_left
                                          · intro w'
                                            go_simp
                                            with_reducible rfl
                                          rotate_left
                                          · simp only [Act.put, List.setIfInBounds_toArray, List.set_cons_zero, List.set_cons_succ, i64_w, i32_w]
                                            rfl
                                          refine pure_ (i := 6) (N := some 100) (v := ?_) (a' := ?_) #[true, true, false, false, true, false, true, false, false, false, false, false, false, false, false] rfl rfl (any_of HT_.out (by kernel_rfl)) (fun _ _ _ h => h) (Or.inl ⟨by rfl, ?_⟩) ?_ ?_
                                          rotate_left
                                          · intro w'
                                            go_simp
                                            with_reducible rfl
                                          rotate_left
                                          · simp only [Act.put, List.setIfInBounds_toArray, List.set_cons_zero, List.set_cons_succ, i64_w, i32_w]
                                            rfl
                                          refine pure_ (i := 8) (N := some 102) (v := ?_) (a' := ?_) #[true, true, false, false, true, false, true, false, true, false, false, false, false, false, false] rfl rfl (any_of HT_.out (by kernel_rfl)) (fun _ _ _ h => h) (Or.inl ⟨by rfl, ?_⟩) ?_ ?_
                                          rotate_left
                                          · intro w'
                                            go_simp
                                            with_reducible rfl
                                          rotate_left
                                          · simp only [Act.put, List.setIfInBounds_toArray, List.set_cons_zero, List.set_cons_succ, i64_w, i32_w]
                                            rfl
                                          refine take_ (i := 2) (N := some 96) (v := ?_) (a' := ?_) #[true, true, true, false, true, false, true, false, true, false, false, false, false, false, false] rfl rfl (take_ofW HT_.out HW_.out (by kernel_rfl)) (fun _ _ _ h => h) (Or.inl ⟨by rfl, ?_⟩) hHeld ?_ ?_
                                          rotate_left
                                          · rintro w' ⟨s0, s1, s2, s3⟩
                                            go_simp
                                            with_reducible rfl
                                          rotate_left
                                          · simp only [Act.put, List.setIfInBounds_toArray, List.set_cons_zero, List.set_cons_succ, i64_w, i32_w]
                                            rfl
                                          refine take_ (i := 5) (N := some 99) (v := ?_) (a' := ?_) #[true, true, true, false, true, true, true, false, true, false, false, false, false, false, false] rfl rfl (take_ofW HT_.out HW_.out (by kernel_rfl)) (fun _ _ _ h => h) (Or.inl ⟨by rfl, ?_⟩) hHeld ?_ ?_
                                          rotate_left
                                          · rintro w' ⟨s0, s1, s2, s3⟩
                                            go_simp
                                            with_reducible rfl
                                          rotate_left
                                          · simp only [Act.put, List.setIfInBounds_toArray, List.set_cons_zero, List.set_cons_succ, i64_w, i32_w]
                                            rfl
                                          refine pure_ (i := 7) (N := some 101) (v := ?_) (a' := ?_) #[true, true, true, false, true, true, true, true, true, false, false, false, false, false, false] rfl rfl (any_of HT_.out (by kernel_rfl)) (fun _ _ _ h => h) (Or.inl ⟨by rfl, ?_⟩) ?_ ?_
                                          rotate_left
                                          · intro w'
                                            go_simp
                                            with_reducible rfl
                                          rotate_left
                                          · simp only [Act.put, List.setIfInBounds_toArray, List.set_cons_zero, List.set_cons_succ, i64_w, i32_w]
                                            rfl
                                          refine take_ (i := 9) (N := some 103) (v := ?_) (a' := ?_) #[true, true, true, false, true, true, true, true, true, true, false, false, false, false, false] rfl rfl (take_ofW HT_.out HW_.out (by kernel_rfl)) (fun _ _ _ h => h) (Or.inl ⟨by rfl, ?_⟩) hHeld ?_ ?_
                                          rotate_left
                                          · rintro w' ⟨s0, s1, s2, s3⟩
                                            go_simp
                                            with_reducible rfl
                                          rotate_left
                                          · simp only [Act.put, List.setIfInBounds_toArray, List.set_cons_zero, List.set_cons_succ, i64_w, i32_w]
                                            rfl
                                          refine pure_ (i := 10) (N := some 104) (v := ?_) (a' := ?_) #[true, true, true, false, true, true, true, true, true, true, true, false, false, false, false] rfl rfl (any_of HT_.out (by kernel_rfl)) (fun _ _ _ h => h) (Or.inl ⟨by rfl, ?_⟩) ?_ ?_
                                          rotate_left
                                          · intro w'
                                            go_simp
                                            with_reducible rfl
                                          rotate_left
                                          · simp only [Act.put, List.setIfInBounds_toArray, List.set_cons_zero, List.set_cons_succ, i64_w, i32_w]
                                            rfl
                                          refine one_ (i := 3) (N := some 97) #[true, true, true, true, true, true, true, true, true, true, true, false, false, false, false] rfl rfl (one_of HT_.out (by kernel_rfl)) (by decide) (fun K hK => ?_)
                                          refine goes_ Try.func40 (by kernel_rfl) rfl #[.slice A201_0 ((rd_T32 (rd_L3 x7_1 x73_2) x90_3).f0).length c201_0] (by rfl) rfl rfl (by (try simp only [List.map_toArray, List.map_cons, List.map_nil]); first | done | rfl | (simp only [List.length_drop, List.length_take]; rfl)) ?_
                                          with_reducible refine (slices_Clone_int_int.calls _ _ ((rd_T32 (rd_L3 x7_1 x73_2) x90_3).f0) t203 _ ?side1 ?side2 A59.out).mono ?_
                                          (case side1 => repeat (first | exact (Kd.V_reads' HE201.out).2.2 | (with_reducible refine Kd.C_alloc ?_ _) | (with_reducible refine Kd.C_drewN ?_ _) | (with_reducible refine Kd.C_drew ?_)))
                                          (case side2 => exact HC201_0.out)
                                          rintro e w66 ⟨v204, rfl, ho0, hb⟩
                                          refine ⟨_, rfl, ?_⟩
                                          have n0_ := Aside0.mk (Kd.N_elder' (by (with_reducible repeat (first | apply Kd.N_alloc | apply Kd.N_drewN | apply Kd.N_drew)); exact HO_7.out) (Kd.R_base ho0) hb)
                                          have nq200_ := Aside0.mk (Kd.V_elder' (by (with_reducible repeat (first | apply Kd.V_alloc | apply Kd.V_drewN | apply Kd.V_drew)); exact HQ200.out) (Kd.R_base ho0) hb)
                                          have n1_ := Aside0.mk (Kd.N_elder' (by (with_reducible repeat (first | apply Kd.N_alloc | apply Kd.N_drewN | apply Kd.N_drew)); exact HO_14.out) (Kd.R_base ho0) hb)
                                          have n2_ := Aside0.mk (Kd.R_lower (Kd.R_newM (M := fun k_ => (w.heap.size ≤ k_)) ho0 (below_size (by repeat (first | (with_reducible first | exact HB.out | apply below_alloc | apply pw_below_drewN | apply below_drew1 | refine below_set ?_ GE197.out | refine below_set ?_ GE202.out) | exact HB.out))) (fun k_ h_ => h_)) (below_size (by repeat (first | (with_reducible first | exact HB.out | apply below_alloc | apply pw_below_drewN | apply below_drew1 | refine below_set ?_ GE197.out | refine below_set ?_ GE202.out) | exact HB.out))))
                                          have n3_ := Aside0.mk (blk_below (g := gb197) (o := .cells #[.slice A196_0 ((rd_T32 l0 x73_2).f0).length c196_0, .int .i64 ((rd_T32 l0 x73_2).f1)] 32 (0, 0)) (by (with_reducible repeat (first | refine blk_drewN ?_ _ | refine blk_drew ?_ | refine blk_alloc ?_ _)); exact BK197.out) hb)
                                          have n4_ := Aside0.mk (blk_below (g := gb202) (o := .cells #[.slice A201_0 ((rd_T32 (rd_L3 x7_1 x73_2) x90_3).f0).length c201_0, .int .i64 ((rd_T32 (rd_L3 x7_1 x73_2) x90_3).f1)] 32 (0, 0)) (by (with_reducible repeat (first | refine blk_drewN ?_ _ | refine blk_drew ?_ | refine blk_alloc ?_ _)); exact BK202.out) hb)
                                          have n5_ := Aside0.mk (below_step (by repeat (first | (with_reducible first | exact HB.out | apply below_alloc | apply pw_below_drewN | apply below_drew1 | refine below_set ?_ GE197.out | refine below_set ?_ GE202.out) | exact HB.out)) hb)
                                          clear HO_7
                                          clear HQ200
                                          clear HO_14
                                          clear BK197
                                          clear BK202
                                          clear HB
                                          have HO_7 := n0_
                                          have HQ200 := nq200_
                                          have HO_14 := n1_
                                          have HO205 := n2_
                                          have BK197 := n3_
                                          have BK202 := n4_
                                          have HB := n5_
                                          clear nq200_ n0_ n1_ n2_ n3_ n4_ n5_
                                          (try clear hb)
                                          (try clear hb2)
                                          (try clear hk)
                                          (try clear hi)
                                          (try clear ho0)
                                          obtain ⟨Ao67, co67, eo67⟩ := Kd.R_slice HO205.out
                                          (first | subst eo67 | (injection eo67 with f1_ f2_ f3_; have f4_ := f1_.symm; have f5_ := f3_.symm; clear f1_ f2_ f3_; subst f4_; subst f5_))
                                          refine hK.out _ _ ⟨(blk_cell BK202.out 0).trans rfl, (blk_cell BK202.out 1).trans rfl, (blk_cell BK197.out 0).trans rfl, (blk_cell BK197.out 1).trans rfl⟩ (fun hHeld => ?_)
                                          clear hK K
                                          refine norm_ (a' := ?_) ?_ ?_
                                          rotate_left
                                          · show Act.put _ (some 97) _ = _
                                            simp only [Act.put, List.setIfInBounds_toArray, List.set_cons_zero, List.set_cons_succ, i64_w, i32_w]
                                            rfl
                                          refine pure_ (i := 11) (N := some 105) (v := ?_) (a' := ?_) #[true, true, true, true, true, true, true, true, true, true, true, true, false, false, false] rfl rfl (any_of HT_.out (by kernel_rfl)) (fun _ _ _ h => h) (Or.inl ⟨by rfl, ?_⟩) ?_ ?_
                                          rotate_left
                                          · intro w'
                                            go_simp
                                            with_reducible rfl
                                          rotate_left
                                          · simp only [Act.put, List.setIfInBounds_toArray, List.set_cons_zero, List.set_cons_succ, i64_w, i32_w]
                                            rfl
                                          refine one_ (i := 12) (N := some 106) #[true, true, true, true, true, true, true, true, true, true, true, true, true, false, false] rfl rfl (one_of HT_.out (by kernel_rfl)) (by decide) (fun K hK => ?_)
                                          refine value_ (w1 := ?_) (v := ?_) (by rfl) rfl ?_ ?_
                                          rotate_left 2
                                          · go_simp
                                            constructor
                                            · rfl
                                            · rfl
                                          refine hK.out _ _ ⟨(blk_cell (blk_alloc BK202.out _) 0).trans rfl, (blk_cell (blk_alloc BK202.out _) 1).trans rfl, (blk_cell (blk_alloc BK197.out _) 0).trans rfl, (blk_cell (blk_alloc BK197.out _) 1).trans rfl⟩ (fun hHeld => ?_)
                                          clear hK K
                                          refine norm_ (a' := ?_) ?_ ?_
                                          rotate_left
                                          · show Act.put _ (some 106) _ = _
                                            simp only [Act.put, List.setIfInBounds_toArray, List.set_cons_zero, List.set_cons_succ, i64_w, i32_w]
                                            rfl
                                          refine one_ (i := 13) (N := some 107) #[true, true, true, true, true, true, true, true, true, true, true, true, true, true, false] rfl rfl (one_of HT_.out (by kernel_rfl)) (by decide) (fun K hK => ?_)
                                          refine Kd.N_append_step k32 (w0 := w) w.heap.size (by rfl) (.tmp 94) (.tmp 106) 22 32 (.agg #[(.slice none 0 0), (.int .i64 0)]) 32 rfl Try.underlying22 info32 rfl (by decide) (by omega) u14 x14_3 (⟨t203, wrap64 ((wrap64 (((rd_T32 l0 x73_2).f1) * (wrap64 (Int.tdiv x8_1 t199)))) * ((rd_T32 (rd_L3 x7_1 x73_2) x90_3).f1))⟩ : S32) [.slice Ao67 t203.length co67, .int .i64 (wrap64 ((wrap64 (((rd_T32 l0 x73_2).f1) * (wrap64 (Int.tdiv x8_1 t199)))) * ((rd_T32 (rd_L3 x7_1 x73_2) x90_3).f1)))] (fun k_ => (w.heap.size ≤ k_) ∧ some k_ ≠ (.slice (some ad198) x7_1.length co54 : Value).ownBlock ∧ k_ ≠ gb197 ∧ k_ ≠ gb202) (fun k_ => ((fun k_ => (w.heap.size ≤ k_) ∧ some k_ ≠ (.slice (some ad198) x7_1.length co54 : Value).ownBlock ∧ k_ ≠ gb197 ∧ k_ ≠ gb202)) k_ ∧ some k_ ≠ (u14 : Value).ownBlock) rfl rfl ?aP (fun _ hk => hk) ?aF ?aO ?aB ?aS ?aL ?_
                                          (case aP => exact (k32_mkF _ _ (⟨t203, wrap64 ((wrap64 (((rd_T32 l0 x73_2).f1) * (wrap64 (Int.tdiv x8_1 t199)))) * ((rd_T32 (rd_L3 x7_1 x73_2) x90_3).f1))⟩ : S32) (Kd.R_reads' (Kd.R_mono (ok' := (fun k_ => ((fun k_ => (w.heap.size ≤ k_) ∧ some k_ ≠ (.slice (some ad198) x7_1.length co54 : Value).ownBlock ∧ k_ ≠ gb197 ∧ k_ ≠ gb202)) k_ ∧ some k_ ≠ (u14 : Value).ownBlock)) (Kd.R_types (Kd.R_types (Kd.R_apart' (Kd.R_apart' (HO205.out) (Kd.N_typed HO_7.out) (by decide)) (Kd.N_typed HO_14.out) (by decide)) BK197.out (by decide)) BK202.out (by decide)) (fun k_ hk => ⟨⟨(hk.1.1.1.1.1), ⟨hk.1.1.1.2, ⟨hk.1.2, hk.2⟩⟩⟩, hk.1.1.2⟩))).2.1 (Kd.R_F (Kd.R_mono (ok' := (fun k_ => ((fun k_ => (w.heap.size ≤ k_) ∧ some k_ ≠ (.slice (some ad198) x7_1.length co54 : Value).ownBlock ∧ k_ ≠ gb197 ∧ k_ ≠ gb202)) k_ ∧ some k_ ≠ (u14 : Value).ownBlock)) (Kd.R_types (Kd.R_types (Kd.R_apart' (Kd.R_apart' (HO205.out) (Kd.N_typed HO_7.out) (by decide)) (Kd.N_typed HO_14.out) (by decide)) BK197.out (by decide)) BK202.out (by decide)) (fun k_ hk => ⟨⟨(hk.1.1.1.1.1), ⟨hk.1.1.1.2, ⟨hk.1.2, hk.2⟩⟩⟩, hk.1.1.2⟩)))))
                                          (case aB => exact (by repeat (first | (with_reducible first | exact HB.out | apply below_alloc | apply pw_below_drewN | apply below_drew1 | refine below_set ?_ GE197.out | refine below_set ?_ GE202.out) | exact HB.out)))
                                          (case aF => exact (fun k_ hk => ⟨((Nat.le_trans (below_size (by repeat (first | (with_reducible first | exact HB.out | apply below_alloc | apply pw_below_drewN | apply below_drew1 | refine below_set ?_ GE197.out | refine below_set ?_ GE202.out) | exact HB.out))) hk)), Kd.fresh' (Kd.N_lt (by (with_reducible repeat (first | apply Kd.N_alloc | apply Kd.N_drewN | apply Kd.N_drew)); exact HO_7.out)) k_ hk, Kd.freshB (g := gb197) (o := .cells #[.slice A196_0 ((rd_T32 l0 x73_2).f0).length c196_0, .int .i64 ((rd_T32 l0 x73_2).f1)] 32 (0, 0)) (by (with_reducible repeat (first | refine blk_drewN ?_ _ | refine blk_drew ?_ | refine blk_alloc ?_ _)); exact BK197.out) k_ hk, Kd.freshB (g := gb202) (o := .cells #[.slice A201_0 ((rd_T32 (rd_L3 x7_1 x73_2) x90_3).f0).length c201_0, .int .i64 ((rd_T32 (rd_L3 x7_1 x73_2) x90_3).f1)] 32 (0, 0)) (by (with_reducible repeat (first | refine blk_drewN ?_ _ | refine blk_drew ?_ | refine blk_alloc ?_ _)); exact BK202.out) k_ hk⟩))
                                          (case aO => exact (by (with_reducible repeat (first | apply Kd.N_alloc | apply Kd.N_drewN | apply Kd.N_drew)); exact Kd.N_mono HO_14.out (fun _ hk => ⟨hk.1.1, ⟨hk.1.2.1, ⟨hk.1.2.2.1, hk.1.2.2.2⟩⟩⟩)))
                                          (case aS => exact (below_size (by repeat (first | (with_reducible first | exact HB.out | apply below_alloc | apply pw_below_drewN | apply below_drew1 | refine below_set ?_ GE197.out | refine below_set ?_ GE202.out) | exact HB.out))))
                                          (case aL => have := LMc60.out; omega)
                                          intro v207 w68 ho hb hg hat
                                          rw [← Ny206.out] at ho
                                          have n0_ := Aside0.mk (Kd.N_afterv (ok := (fun k_ => (P1_ k_ ∨ w.heap.size ≤ k_) ∧ some k_ ≠ (.slice Ao67 t203.length co67 : Value).ownBlock ∧ k_ ≠ gb197 ∧ k_ ≠ gb202)) (by (with_reducible repeat (first | apply Kd.N_alloc | apply Kd.N_drewN | apply Kd.N_drew)); exact Kd.N_mono HO_7.out (fun _ hk => ⟨⟨hk.1.1, ⟨hk.2, ⟨hk.1.2.2.1, hk.1.2.2.2⟩⟩⟩, hk.1.2.1⟩)) hg hat)
                                          have nq200_ := Aside0.mk (Kd.V_afterv (ok := (fun k_ => (P1_ k_ ∨ w.heap.size ≤ k_) ∧ some k_ ≠ (.slice Ao67 t203.length co67 : Value).ownBlock ∧ k_ ≠ gb197 ∧ k_ ≠ gb202)) (by (with_reducible repeat (first | apply Kd.V_alloc | apply Kd.V_drewN | apply Kd.V_drew)); exact Kd.V_mono HQ200.out (fun _ hk => ⟨⟨hk.1.1, ⟨hk.2, ⟨hk.1.2.2.1, hk.1.2.2.2⟩⟩⟩, hk.1.2.1⟩)) hg hat)
                                          have n1_ := Aside0.mk (blk_grown (g := gb197) (o := .cells #[.slice A196_0 ((rd_T32 l0 x73_2).f0).length c196_0, .int .i64 ((rd_T32 l0 x73_2).f1)] 32 (0, 0)) (by (with_reducible repeat (first | refine blk_drewN ?_ _ | refine blk_drew ?_ | refine blk_alloc ?_ _)); exact BK197.out) hg (Kd.N_away HO_14.out (fun _ hk => hk.1.2.2.1)))
                                          have n2_ := Aside0.mk (blk_grown (g := gb202) (o := .cells #[.slice A201_0 ((rd_T32 (rd_L3 x7_1 x73_2) x90_3).f0).length c201_0, .int .i64 ((rd_T32 (rd_L3 x7_1 x73_2) x90_3).f1)] 32 (0, 0)) (by (with_reducible repeat (first | refine blk_drewN ?_ _ | refine blk_drew ?_ | refine blk_alloc ?_ _)); exact BK202.out) hg (Kd.N_away HO_14.out (fun _ hk => hk.1.2.2.2)))
                                          have n3_ := Aside0.mk (hb)
                                          have n4_ := Aside0.mk (ho)
                                          clear HO_7
                                          clear HQ200
                                          clear BK197
                                          clear BK202
                                          clear HB
                                          clear HO_14
                                          clear HO205
                                          have HO_7 := n0_
                                          have HQ200 := nq200_
                                          have BK197 := n1_
                                          have BK202 := n2_
                                          have HB := n3_
                                          have HO208 := n4_
                                          clear nq200_ n0_ n1_ n2_ n3_ n4_
                                          clear ho hb hg hat
                                          refine hK.out _ _ ⟨(blk_cell BK202.out 0).trans rfl, (blk_cell BK202.out 1).trans rfl, (blk_cell BK197.out 0).trans rfl, (blk_cell BK197.out 1).trans rfl⟩ (fun hHeld => ?_)
                                          clear hK K
                                          refine norm_ (a' := ?_) ?_ ?_
                                          rotate_left
                                          · show Act.put _ (some 107) _ = _
                                            simp only [Act.put, List.setIfInBounds_toArray, List.set_cons_zero, List.set_cons_succ, i64_w, i32_w]
                                            rfl
                                          refine pure_ (i := 14) (N := some 14) (v := ?_) (a' := ?_) #[true, true, true, true, true, true, true, true, true, true, true, true, true, true, true] rfl rfl (any_of HT_.out (by kernel_rfl)) (fun _ _ _ h => h) (Or.inl ⟨by rfl, ?_⟩) ?_ ?_
                                          rotate_left
                                          · intro w'
                                            go_simp
                                            with_reducible rfl
                                          rotate_left
                                          · simp only [Act.put, List.setIfInBounds_toArray, List.set_cons_zero, List.set_cons_succ, i64_w, i32_w]
                                            rfl
                                          refine done_ (done_of HT_.out (by kernel_rfl)) ?_
                                          try go_wp2
                                          go_roundg k3
                                          case measure => have := HK1.out; have := HK2.out; have := HK3.out; omega
                                          case rel => exact ⟨(y206), (wrap64 (x90_3 + 1)), (by first | rfl | (simp; done) | (simp [*]; done)), H', ⟨by have := HK1.out; have := HK2.out; have := HK3.out; omega⟩, ⟨by (with_reducible repeat (first | apply Kd.N_alloc | apply Kd.N_drewN | apply Kd.N_drew)); exact Kd.N_mono HO_7.out (fun _ hk => ⟨hk.1.1, ⟨hk.2, hk.1.2.2.1⟩⟩)⟩, ⟨by (with_reducible repeat (first | apply Kd.V_alloc | apply Kd.V_drewN | apply Kd.V_drew)); exact Kd.V_mono HQ200.out (fun _ hk => ⟨hk.1.1, ⟨hk.2, hk.1.2.2.1⟩⟩)⟩, ⟨by (with_reducible repeat (first | apply Kd.N_alloc | apply Kd.N_drewN | apply Kd.N_drew)); exact Kd.N_mono HO208.out (fun _ hk => ⟨hk.1, ⟨hk.2.1, hk.2.2.1⟩⟩)⟩, ⟨by (with_reducible repeat (first | refine blk_drewN ?_ _ | refine blk_drew ?_ | refine blk_alloc ?_ _)); exact BK197.out⟩, ⟨by repeat (first | (with_reducible first | exact HB.out | apply below_alloc | apply pw_below_drewN | apply below_drew1 | refine below_set ?_ GE197.out | refine below_set ?_ GE202.out) | exact HB.out)⟩⟩
                                        · rw [if_neg c60] at H
                                          exact absurd H (by simp)
                                      · rw [if_neg c58] at H
                                        exact absurd H (by simp)
                                    · rw [if_neg c57] at H
                                      exact absurd H (by simp)
                                  · rw [if_neg c56] at H
                                    have c56b0 : decide (x90_3 < ((rd_L3 x7_1 x73_2).length : Int)) = false := decide_eq_false c56
                                    clear c56
                                    have H' := Aside0.mk H
                                    clear H
                                    go_wp2
                                    go_roundg k3
                                    case measure => have := HK1.out; have := HK2.out; have := HK3.out; omega
                                    case rel => exact ⟨(x14_3), (wrap64 (x73_2 + 1)), (by first | rfl | (simp; done) | (simp [*]; done)), H', ⟨by have := HK1.out; have := HK2.out; have := HK3.out; omega⟩, ⟨by (with_reducible repeat (first | apply Kd.N_alloc | apply Kd.N_drewN | apply Kd.N_drew)); exact Kd.N_mono HO_7.out (fun _ hk => ⟨hk.1, hk.2.1⟩)⟩, ⟨by (with_reducible repeat (first | apply Kd.N_alloc | apply Kd.N_drewN | apply Kd.N_drew)); exact Kd.N_mono HO_14.out (fun _ hk => ⟨hk.1, hk.2.1⟩)⟩, ⟨by repeat (first | (with_reducible first | exact HB.out | apply below_alloc | apply pw_below_drewN | apply below_drew1 | refine below_set ?_ GE197.out) | exact HB.out)⟩⟩
                          · rw [if_neg c48] at H
                            exact absurd H (by simp)
                        · rw [if_neg c47] at H
                          exact absurd H (by simp)
                      · rw [if_neg c46] at H
                        exact absurd H (by simp)
                    · rw [if_neg c45] at H
                      have c45b0 : decide (x73_2 < (l0.length : Int)) = false := decide_eq_false c45
                      clear c45
                      replace H := Option.bind_eq_some_iff.mp H
                      obtain ⟨⟨t192, t195⟩, A690, H⟩ := H
                      replace H : (some (t192, t195)) = some (r1, r2) := H
                      have A69 := Aside0.mk A690
                      clear A690
                      simp only [Option.some.injEq, Prod.mk.injEq] at H
                      obtain ⟨rfl, rfl⟩ := H
                      obtain ⟨Ao70, co70, eo70⟩ := Kd.N_slice HO_14.out
                      subst eo70
                      go_wp2_with (first | ((with_reducible refine gate_callee (f := 41) rfl ?_); refine goesL_ (some 111) rfl rfl Try.func41 (by kernel_rfl) rfl #[.slice Ao70 x14_2.length co70] rfl (by (try simp only [List.map_toArray, List.map_cons, List.map_nil]); first | done | rfl | (simp only [List.length_drop, List.length_take]; rfl)) ?_; (with_reducible refine (dist_tidy.calls k2 (fun k_ => (w.heap.size ≤ k_) ∧ some k_ ≠ (v176 : Value).ownBlock) (.slice Ao70 x14_2.length co70) x14_2 t192 t195 w _ ?side1 ?side2 A69.out).mono ?_); (case side1 => repeat (first | (with_reducible first | exact HB.out | apply below_alloc | apply pw_below_drewN | apply below_drew1) | exact HB.out)); (case side2 => exact HO_14.out); rintro e w71 ⟨v193, rfl, ho0, hb, hkp⟩; refine ⟨_, rfl, ?_⟩; have n0_ := Aside0.mk (Kd.N_mono (ok' := fun k_ => (P1_ k_ ∨ w.heap.size ≤ k_) ∧ some k_ ≠ (v193 : Value).ownBlock) (Kd.N_keptB (HO_7.out) hkp (fun k_ hk_ hs_ => (hk_.2) hs_)) (fun k_ hk_ => ⟨hk_.1.1, fun e_ => Nat.not_le.2 hk_.2.2 (Kd.N_base ho0 k_ e_.symm)⟩)); have n1_ := Aside0.mk (Kd.N_lower (Kd.N_mono (ok' := fun k_ => (w.heap.size ≤ k_)) ho0 (fun k_ hk_ => Or.elim hk_ (fun hs_ => (hs_.1)) (fun hn_ => (Nat.le_trans (below_size (by repeat (first | (with_reducible first | exact HB.out | apply below_alloc | apply pw_below_drewN | apply below_drew1) | exact HB.out))) hn_)))) (below_size (by repeat (first | (with_reducible first | exact HB.out | apply below_alloc | apply pw_below_drewN | apply below_drew1) | exact HB.out)))); have n2_ := Aside0.mk (hb); clear HO_7; clear HB; clear HO_14; have HO_7 := n0_; have HO194 := n1_; have HB := n2_; clear n0_ n1_ n2_; (try clear hb); (try clear hkp); (try clear ho0)))
                      go_ret2
                      exact ⟨_, by first | rfl | (simp [errW_none, errW_some] <;> rfl) | (simp [*, errW_none, errW_some] <;> rfl), by (with_reducible repeat (first | apply Kd.N_alloc | apply Kd.N_drewN | apply Kd.N_drew)); exact HO194.out, by repeat (first | (with_reducible first | exact HB.out | apply below_alloc | apply pw_below_drewN | apply below_drew1) | exact HB.out)⟩
      · rw [if_neg c6] at H
        exact absurd H (by simp)
    · rw [if_neg c5] at H
      exact absurd H (by simp)
  · rw [if_neg c4] at H
    have c4b0 : (t174 == 0) = false := beq_eq_false_iff_ne.mpr c4
    have c4b1 : (t174 != 0) = true := bne_iff_ne.mpr c4
    simp only [Option.some.injEq, Prod.mk.injEq] at H
    obtain ⟨rfl, rfl⟩ := H
    go_enter Try.func54, Try.ntmps54
    go_wp2_with (first | ((with_reducible refine gate_callee (f := 13) rfl ?_); refine goesL_ (some 21) rfl rfl Try.func13 (by kernel_rfl) rfl #[.slice A0 l0.length c0] rfl (by (try simp only [List.map_toArray, List.map_cons, List.map_nil]); first | done | rfl | (simp only [List.length_drop, List.length_take]; rfl)) ?_; (with_reducible refine (dist_Wrong.calls k _ _ l0 t174 _ ?side1 ?side2 A3.out).mono ?_); (case side1 => repeat (first | exact HR0.out | (with_reducible refine Kd.C_alloc ?_ _) | (with_reducible refine Kd.C_drewN ?_ _) | (with_reducible refine Kd.C_drew ?_))); (case side2 => exact HC0.out); rintro e w72 ⟨rfl, hb⟩; refine ⟨_, rfl, ?_⟩; have n0_ := Aside0.mk (Kd.V_below (by (with_reducible repeat (first | apply Kd.V_alloc | apply Kd.V_drewN | apply Kd.V_drew)); exact HO1.out) hb); have n1_ := Aside0.mk (below_step (by repeat (first | (with_reducible first | exact HB.out | apply below_alloc | apply pw_below_drewN | apply below_drew1) | exact HB.out)) hb); clear HO1; clear HB; have HO1 := n0_; have HB := n1_; clear n0_ n1_; (try clear hb); (try clear hb2); (try clear hk); (try clear hi)))
    go_ret2
    exact ⟨_, by first | rfl | (simp [errW_none, errW_some] <;> rfl) | (simp [*, errW_none, errW_some] <;> rfl), by first | exact Kd.S_nil _ _ _ _ _ | exact Kd.N_nil _ _ _ _ _ | exact Kd.V_nil _ _ _ _ _ | exact Kd.Q_nil _ _ _ _ _ | exact Kd.R_nil _ _ _ _ _, by repeat (first | (with_reducible first | exact HB.out | apply below_alloc | apply pw_below_drewN | apply below_drew1) | exact HB.out)⟩

end Go.Proofs.Ytkemhfhmlcljjaa.PQ

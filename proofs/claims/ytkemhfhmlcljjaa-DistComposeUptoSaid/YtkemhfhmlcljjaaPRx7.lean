
/- Functions of the program in Lean, by wip/xprint.py. Conditions: in each theorem. -/
import Derived.Test.YtkemhfhmlcljjaaPRxs
import Derived.Test.YtkemhfhmlcljjaaPRx0
import Derived.Test.YtkemhfhmlcljjaaPRx1
import Derived.Test.YtkemhfhmlcljjaaPRx2
import Derived.Test.YtkemhfhmlcljjaaPRx3
import Derived.Test.YtkemhfhmlcljjaaPRx5
import Derived.Test.YtkemhfhmlcljjaaPRx6
namespace Go.Proofs.Ytkemhfhmlcljjaa.PR
open Go.RowKit Go.Proofs.YtkemhfhmlcljjaaW.PrintWords Go.Proofs.YtkemhfhmlcljjaaW.PrintLast Go.Proofs.YtkemhfhmlcljjaaW.PrintMore
attribute [local go_sem] max2_int min2_int max_two min_two max_three min_three max_four min_four   -- for this text's walks alone
set_option linter.unusedVariables false
set_option linter.unusedSimpArgs false

/-! ### dist_Bind: function 54 -/
mutual
def dist_Bind.l0 : Nat → List (S32) → List (S45) → List (List (S32)) → Int → List (S32) → Int → Int → Option ((List (S32)) × Int)
 | 0, _, _, _, _, _, _, _ => none
 | k + 1, x0, x1, x7, x8, x28, x29, x30 => if x30 < x29 then (if 0 ≤ x30 then (if x30 < (x28.length : Int) then ((slices_Clone_int_int.f ((rd_T32 x28 x30).f0)).bind fun t171 => ((plain_Bind_1.f k t171 x1).bind fun bt174 => (if bt174.2 = 0 then ((dist_Wrong.f k bt174.1).bind fun t178 => (dist_Bind.j1 k x0 x1 x7 x8 x30 bt174.1 t178 x28 x29 x30)) else (dist_Bind.j1 k x0 x1 x7 x8 x30 bt174.1 bt174.2 x28 x29 x30)))) else (none)) else (none)) else ((dist_total.f k x0).bind fun t182 => (if (wrap64 (x8 * t182)) > 1073741824 then (some (([] : List (S32)), 4)) else (dist_Bind.l1 k x7 x8 ([] : List (S32)) x0 (x0.length : Int) 0)))
def dist_Bind.j1 : Nat → List (S32) → List (S45) → List (List (S32)) → Int → Int → List (S32) → Int → List (S32) → Int → Int → Option ((List (S32)) × Int)
 | 0, _, _, _, _, _, _, _, _, _, _ => none
 | k + 1, x0, x1, x7, x8, x9, x11, x12, x28, x29, x30 => if x12 = 0 then (if 0 ≤ x9 then (if x9 < (x7.length : Int) then ((dist_total.f k x11).bind fun t180 => ((dist_gcd.f k x8 t180).bind fun t181 => (if t181 = 0 then (none) else (if (wrap64 ((wrap64 (Int.tdiv x8 t181)) * t180)) > 1073741824 then (some (([] : List (S32)), 4)) else (dist_Bind.l0 k x0 x1 (x7.set (x9 : Int).toNat x11) (wrap64 ((wrap64 (Int.tdiv x8 t181)) * t180)) x28 x29 (wrap64 (x30 + 1))))))) else (none)) else (none)) else (some (([] : List (S32)), x12))
def dist_Bind.l1 : Nat → List (List (S32)) → Int → List (S32) → List (S32) → Int → Int → Option ((List (S32)) × Int)
 | 0, _, _, _, _, _, _ => none
 | k + 1, x7, x8, x14, x71, x72, x73 => if x73 < x72 then (if 0 ≤ x73 then (if x73 < (x71.length : Int) then (if x73 < (x7.length : Int) then ((dist_total.f k (rd_L3 x7 x73)).bind fun t190 => (if t190 = 0 then (none) else (dist_Bind.l2 k x7 x8 x14 (wrap64 (Int.tdiv x8 t190)) x71 x72 x73 (rd_L3 x7 x73) ((rd_L3 x7 x73).length : Int) 0 ((rd_T32 x71 x73).f0) ((rd_T32 x71 x73).f1)))) else (none)) else (none)) else (none)) else ((dist_tidy.f k x14).bind fun bt183 => (some (bt183.1, bt183.2)))
def dist_Bind.l2 : Nat → List (List (S32)) → Int → List (S32) → Int → List (S32) → Int → Int → List (S32) → Int → Int → List Int → Int → Option ((List (S32)) × Int)
 | 0, _, _, _, _, _, _, _, _, _, _, _, _ => none
 | k + 1, x7, x8, x14, x17, x71, x72, x73, x88, x89, x90, x189000, x189001 => if x90 < x89 then (if 0 ≤ x90 then (if x90 < (x88.length : Int) then ((slices_Clone_int_int.f ((rd_T32 x88 x90).f0)).bind fun t194 => (if x14.length < 4398046511104 then (dist_Bind.l2 k x7 x8 (x14 ++ [(⟨t194, wrap64 ((wrap64 (x189001 * x17)) * ((rd_T32 x88 x90).f1))⟩ : S32)]) x17 x71 x72 x73 x88 x89 (wrap64 (x90 + 1)) x189000 x189001) else (none))) else (none)) else (none)) else (dist_Bind.l1 k x7 x8 x14 x71 x72 (wrap64 (x73 + 1)))
end
def dist_Bind.f (k : Nat) (l0 : List (S32)) (l1 : List (S45)) : Option ((List (S32)) × Int) := (dist_Wrong.f k l0).bind fun t165 => (if t165 = 0 then (if 0 ≤ (l0.length : Int) then (if ((l0.length : Int) : Int).toNat ≤ 11728124029610 then (dist_Bind.l0 k l0 l1 (List.replicate ((l0.length : Int) : Int).toNat []) 1 l0 (l0.length : Int) 0) else (none)) else (none)) else (some (([] : List (S32)), t165)))
theorem dist_Bind.mono_l : ∀ k, (∀ y0 y1 y2 y3 y4 y5 y6, LeO (dist_Bind.l0 k y0 y1 y2 y3 y4 y5 y6) (dist_Bind.l0 (k + 1) y0 y1 y2 y3 y4 y5 y6)) ∧ (∀ y0 y1 y2 y3 y4 y5 y6 y7 y8 y9, LeO (dist_Bind.j1 k y0 y1 y2 y3 y4 y5 y6 y7 y8 y9) (dist_Bind.j1 (k + 1) y0 y1 y2 y3 y4 y5 y6 y7 y8 y9)) ∧ (∀ y0 y1 y2 y3 y4 y5, LeO (dist_Bind.l1 k y0 y1 y2 y3 y4 y5) (dist_Bind.l1 (k + 1) y0 y1 y2 y3 y4 y5)) ∧ (∀ y0 y1 y2 y3 y4 y5 y6 y7 y8 y9 y10 y11, LeO (dist_Bind.l2 k y0 y1 y2 y3 y4 y5 y6 y7 y8 y9 y10 y11) (dist_Bind.l2 (k + 1) y0 y1 y2 y3 y4 y5 y6 y7 y8 y9 y10 y11))
 | 0 => ⟨fun _ _ _ _ _ _ _ r h => by simp [dist_Bind.l0] at h, fun _ _ _ _ _ _ _ _ _ _ r h => by simp [dist_Bind.j1] at h, fun _ _ _ _ _ _ r h => by simp [dist_Bind.l1] at h, fun _ _ _ _ _ _ _ _ _ _ _ _ r h => by simp [dist_Bind.l2] at h⟩
 | k + 1 => by
  obtain ⟨ih0, ih1, ih2, ih3⟩ := dist_Bind.mono_l k
  refine ⟨?_, ?_, ?_, ?_⟩
  ·
   intro y0 y1 y2 y3 y4 y5 y6
   unfold dist_Bind.l0
   repeat' first
   | (with_reducible exact ih1 _ _ _ _ _ _ _ _ _ _)
   | (with_reducible exact ih2 _ _ _ _ _ _)
   | (with_reducible exact dist_Wrong.mono _ _)
   | (with_reducible exact dist_total.mono _ _)
   | (with_reducible exact plain_Bind_1.mono _ _ _)
   | (with_reducible exact LeO.refl _)
   | (with_reducible refine LeO.ite ?_ ?_)
   | (with_reducible refine LeO.bind ?_ (fun _ => ?_))
  ·
   intro y0 y1 y2 y3 y4 y5 y6 y7 y8 y9
   unfold dist_Bind.j1
   repeat' first
   | (with_reducible exact ih0 _ _ _ _ _ _ _)
   | (with_reducible exact dist_gcd.mono _ _ _)
   | (with_reducible exact dist_total.mono _ _)
   | (with_reducible exact LeO.refl _)
   | (with_reducible refine LeO.ite ?_ ?_)
   | (with_reducible refine LeO.bind ?_ (fun _ => ?_))
  ·
   intro y0 y1 y2 y3 y4 y5
   unfold dist_Bind.l1
   repeat' first
   | (with_reducible exact ih3 _ _ _ _ _ _ _ _ _ _ _ _)
   | (with_reducible exact dist_tidy.mono _ _)
   | (with_reducible exact dist_total.mono _ _)
   | (with_reducible exact LeO.refl _)
   | (with_reducible refine LeO.ite ?_ ?_)
   | (with_reducible refine LeO.bind ?_ (fun _ => ?_))
  ·
   intro y0 y1 y2 y3 y4 y5 y6 y7 y8 y9 y10 y11
   unfold dist_Bind.l2
   repeat' first
   | (with_reducible exact ih2 _ _ _ _ _ _)
   | (with_reducible exact ih3 _ _ _ _ _ _ _ _ _ _ _ _)
   | (with_reducible exact LeO.refl _)
   | (with_reducible refine LeO.ite ?_ ?_)
   | (with_reducible refine LeO.bind ?_ (fun _ => ?_))
theorem dist_Bind.mono : ∀ a0 a1 k, LeO (dist_Bind.f k a0 a1) (dist_Bind.f (k + 1) a0 a1) := by
 intro a0 a1 k
 obtain ⟨ih0, ih1, ih2, ih3⟩ := dist_Bind.mono_l k
 unfold dist_Bind.f
 repeat' first
   | (with_reducible exact ih0 _ _ _ _ _ _ _)
   | (with_reducible exact dist_Wrong.mono _ _)
   | (with_reducible exact LeO.refl _)
   | (with_reducible refine LeO.ite ?_ ?_)
   | (with_reducible refine LeO.bind ?_ (fun _ => ?_))
def dist_Bind.T30 : Bool × List (List Nat × List Nat) := (true, [([], []), ([], []), ([1], [1]), ([2], [2]), ([], []), ([4], [4]), ([], []), ([5, 6], [5, 6]), ([], []), ([8], [8]), ([7, 9], [7, 9]), ([3, 10], [3, 10]), ([11], [11]), ([0, 12, 3], [0, 12]), ([13, 13, 0, 1, 2, 3, 4, 5, 6, 7, 8, 9, 10, 11, 12, 13], [0, 13])])
def dist_Bind.B30 : List Nat := [0, 0, 2, 6, 0, 16, 0, 112, 0, 256, 1008, 2046, 4094, 8191, 16383]
theorem dist_Bind.tab30 : rtab .any (opsOf Try.f54 30) = dist_Bind.T30 := by kernel_rfl
theorem dist_Bind.bits30 : waitsOk dist_Bind.T30.2 dist_Bind.B30 = true := by kernel_rfl
set_option maxHeartbeats 8000000 in
set_option maxRecDepth 100000 in
theorem dist_Bind.calls (k : Nat) (A0 : Option Addr) (c0 : Nat) (l0 : List (S32)) (P1_ : Nat → Prop) (A1 : Option Addr) (c1 : Nat) (l1 : List (S45)) (r1 : List (S32)) (r2 : Int) (w : World) (hr0 : Kd.C k32 w A0 l0.length l0) (hc0 : l0.length ≤ c0) (hs1 : Kd.V k45 45 w w.heap.size (fun k_ => P1_ k_) (.slice A1 l1.length c1) l1) (h : dist_Bind.f k l0 l1 = some (r1, r2)) (gcap_ : Nat) (hcap_ : w.cell? ⟨gcap_, 0, none⟩ = some (.slice A1 l1.length c1)) :
  Calls Try.prog 54 #[.slice A0 l0.length c0, .func (.func 55) #[] #[.pointer (some ⟨gcap_, 0, none⟩)]] w fun e w' => ∃ v0_ : Value, e = .returned (.tuple #[v0_, .int .i64 r2]) ∧ Kd.N k32 32 w' w.heap.size (fun k_ => (w.heap.size ≤ k_)) v0_ r1 ∧ Below w.heap.size w w' := by
 have hu32 := Try.underlying32
 have HR0 := Aside0.mk hr0
 have HC0 := Aside0.mk hc0
 clear hr0 hc0
 have HO1 := Aside0.mk (show Kd.V k45 45 w w.heap.size (fun k_ => (P1_ k_ ∨ w.heap.size ≤ k_)) (.slice A1 l1.length c1) l1 from Kd.V_mono hs1 (fun k_ hk => .inl hk))
 have HB := Aside0.mk (Below.refl w.heap.size w)
 have H : ((dist_Wrong.f k l0).bind fun t165 => (if t165 = 0 then (if 0 ≤ (l0.length : Int) then (if ((l0.length : Int) : Int).toNat ≤ 11728124029610 then (dist_Bind.l0 k l0 l1 (List.replicate ((l0.length : Int) : Int).toNat []) 1 l0 (l0.length : Int) 0) else (none)) else (none)) else (some (([] : List (S32)), t165)))) = some (r1, r2) := h
 clear h
 obtain ⟨t165, A3, H⟩ := bnd_ H
 by_cases c4 : t165 = 0
 ·
  rw [if_pos c4] at H
  have c4b0 : (t165 == 0) = true := beq_iff_eq.mpr c4
  have c4b1 : (t165 != 0) = false := bne_eq_false_iff_eq.mpr c4
  clear c4
  by_cases c5 : 0 ≤ (l0.length : Int)
  ·
   rw [if_pos c5] at H
   have c5b0 := eq_true c5
   have c5b1 : decide (0 ≤ (l0.length : Int)) = true := decide_eq_true c5
   clear c5
   by_cases c6 : ((l0.length : Int) : Int).toNat ≤ 11728124029610
   ·
    rw [if_pos c6] at H
    have c6b0 := eq_true c6
    have c6b1 : decide (((l0.length : Int) : Int).toNat ≤ 11728124029610) = true := decide_eq_true c6
    clear c6
    obtain ⟨y166, hy166⟩ : ∃ y_ : List (List (S32)), y_ = (List.replicate ((l0.length : Int) : Int).toNat []) := ⟨_, rfl⟩
    replace H : (dist_Bind.l0 k l0 l1 y166 1 l0 (l0.length : Int) 0) = some (r1, r2) := by (rw [hy166]; with_reducible exact H)
    have Ny166 := Aside0.mk hy166
    clear hy166
    have H' := Aside0.mk H
    clear H
    go_enter Try.func54, Try.ntmps54
    go_wp2_with (first | ((with_reducible refine gate_callee (f := 13) rfl ?_); refine goesL_ (some 21) rfl rfl Try.func13 (by kernel_rfl) rfl #[.slice A0 l0.length c0] rfl (by (try simp only [List.map_toArray, List.map_cons, List.map_nil]); rfl) ?_; (with_reducible refine (dist_Wrong.calls k _ _ l0 t165 _ ?side1 ?side2 A3.out).mono ?_); (case side1 => repeat (exact HR0.out)); (case side2 => exact HC0.out); rintro e w7 ⟨rfl, hb⟩; refine ⟨_, rfl, ?_⟩; replace HO1 := Aside0.mk (Kd.V_below (by (with_reducible repeat (first | apply Kd.V_alloc | apply Kd.V_drewN | apply Kd.V_drew)); exact HO1.out) hb); replace HB := Aside0.mk (below_step HB.out hb); (try clear hb)) | ((with_reducible refine gate_dst (N := 27) rfl ?_); refine Kd.N_make (Kd.slice 32 k32) _ 23 rfl (N' := 27) rfl 78 _ _ rfl (l0.length : Int) rfl rfl Try.underlying78 (.slice none 0 0) 24 info23 rfl (by decide) (by omega) [] (ok := fun k_ => w7.heap.size ≤ k_) (okp := fun _ => False) (Kd.FK_slice_mk (Nat.le_refl _) (Kd.F_nil _ _ _)) (fun _ hk => hk.elim) (Nat.le_refl _) (of_decide_eq_true (by (with_reducible assumption))) (Nat.le_trans (Nat.mul_le_mul_right _ (of_decide_eq_true (by (with_reducible assumption)) : (l0.length : Int).toNat ≤ 11728124029610)) (by omega)) (Below.refl _ _) (Nat.le_refl _) ?_; intro v167 w8 ho9 hb hg_ hnew_; clear hg_ hnew_; (rw [← Ny166.out] at ho9); replace HO1 := Aside0.mk (Kd.V_elder' (by (with_reducible repeat (first | apply Kd.V_alloc | apply Kd.V_drewN | apply Kd.V_drew)); exact HO1.out) (Kd.N_base ho9) hb); have HO168 := Aside0.mk (Kd.N_lower (Kd.N_mono (ok' := fun k_ => (P1_ k_ ∨ w.heap.size ≤ k_)) ho9 (fun k_ hk_ => (.inr (Nat.le_trans (below_size HB.out) hk_)))) (below_size HB.out)); replace HB := Aside0.mk (below_step HB.out hb); clear hb ho9))
    go_loopg [8, 30] k (fun kq v8 v30 w' => ∃ (x7_1 : List (List (S32))) (x8_1 : Int) (x30_1 : Int), v8 = .int .i64 x8_1 ∧ v30 = .int .i64 x30_1 ∧ Aside0 (dist_Bind.l0 kq l0 l1 x7_1 x8_1 l0 (l0.length : Int) x30_1 = some (r1, r2)) ∧ Aside0 (kq ≤ k) ∧ Aside0 (Kd.V k45 45 w' w.heap.size (fun k_ => (P1_ k_ ∨ w.heap.size ≤ k_) ∧ some k_ ≠ (v167 : Value).ownBlock) (.slice A1 l1.length c1) l1) ∧ Aside0 (Kd.N (Kd.slice 32 k32) 23 w' w.heap.size (fun k_ => (P1_ k_ ∨ w.heap.size ≤ k_)) v167 x7_1) ∧ Aside0 (Below w.heap.size w w'))
    case atStart => exact ⟨(y166), (1), (0), rfl, rfl, H', ⟨Nat.le_refl _⟩, ⟨by (with_reducible repeat (first | apply Kd.V_alloc | apply Kd.V_drewN | apply Kd.V_drew)); exact HO1.out⟩, ⟨by (with_reducible repeat (first | apply Kd.N_alloc | apply Kd.N_drewN | apply Kd.N_drew)); exact HO168.out⟩, ⟨HB.out⟩⟩
    case round =>
     clear H'
     try clear c4b0
     try clear c4b1
     try clear c5b0
     try clear c5b1
     try clear c6b0
     try clear c6b1
     obtain ⟨x7_1, x8_1, x30_1, rfl, rfl, HA, HK1, HO_1, HO_7, HB⟩ := hrel
     cases gk with
     | zero => exact absurd HA.out (by simp [dist_Bind.l0])
     | succ k1 =>
      have H := HA.out
      clear HA
      simp only [dist_Bind.l0] at H
      by_cases c10 : x30_1 < (l0.length : Int)
      ·
       rw [if_pos c10] at H
       have c10b0 : decide (x30_1 < (l0.length : Int)) = true := decide_eq_true c10
       clear c10
       by_cases c11 : 0 ≤ x30_1
       ·
        rw [if_pos c11] at H
        have c11b0 : decide (0 ≤ x30_1) = true := decide_eq_true c11
        clear c11
        by_cases c12 : x30_1 < (l0.length : Int)
        ·
         rw [if_pos c12] at H
         have c12b0 : decide (x30_1 < (l0.length : Int)) = true := decide_eq_true c12
         clear c12
         obtain ⟨t171, A13, H⟩ := bnd_ H
         obtain ⟨⟨t174, t177⟩, A14, H⟩ := bnd_ H
         dsimp only at H
         have HC15 := Aside0.mk H
         clear H
         have p169 : 0 ≤ (x30_1 : Int) := of_decide_eq_true (by (with_reducible assumption))
         have q169 : x30_1 < (l0.length : Int) := of_decide_eq_true (by (with_reducible assumption))
         obtain ⟨ad169, A169_0, c169_0, e169, hx169_0, hx169_1, hl169_0, hi169_0⟩ := at_T32 HR0.out x30_1 p169 q169
         cases e169
         replace hx169_0 := (HB.out.cell (World.block_lt_of_cell? w _ hx169_0)).trans hx169_0
         replace hx169_1 := (HB.out.cell (World.block_lt_of_cell? w _ hx169_1)).trans hx169_1
         have HR169_0 := Aside0.mk hi169_0
         have HC169_0 := Aside0.mk hl169_0
         clear hi169_0 hl169_0
         replace p169 := eq_true p169
         replace q169 := eq_true q169
         go_upto_if 44 with (first | ((with_reducible refine gate_dst (N := 10) rfl ?_); refine box_event ?hg (N := 10) ?hd (cs := #[.slice none 0 0, .int .i64 0]) (t := 32) ?hr ?_; (case hd | hg => rfl); (case hr => go_simp; done); intro gb170 hg w16 hbox hb; replace HO_1 := Aside0.mk (Kd.V_below (Kd.V_elderB (by (with_reducible repeat (first | apply Kd.V_alloc | apply Kd.V_drewN | apply Kd.V_drew)); exact HO_1.out) gb170 (Nat.le_of_eq hg.symm)) hb); replace HO_7 := Aside0.mk (Kd.N_below (Kd.N_elderB (by (with_reducible repeat (first | apply Kd.N_alloc | apply Kd.N_drewN | apply Kd.N_drew)); exact HO_7.out) gb170 (Nat.le_of_eq hg.symm)) hb); have BK170 := Aside0.mk (hbox); have GW170 := gw_ HB.out hg; have GE170 := gw_ HB.out hg; replace HB := Aside0.mk (below_step HB.out hb); clear hb hbox hg; have hcz17_0 := cz0_ BK170; have hcz17_1 := cz1_ BK170; have hfz17_0 := blk_frozen BK170.out 0; have hfz17_1 := blk_frozen BK170.out 1) | ((with_reducible refine gate_callee (f := 40) rfl ?_); refine goesL_ (some 39) rfl rfl Try.func40 (by kernel_rfl) rfl #[.slice A169_0 ((rd_T32 l0 x30_1).f0).length c169_0] rfl (by (try simp only [List.map_toArray, List.map_cons, List.map_nil]); rfl) ?_; (with_reducible refine (slices_Clone_int_int.calls _ _ ((rd_T32 l0 x30_1).f0) t171 _ ?side1 ?side2 A13.out).mono ?_); (case side1 => exact Kd.C_below HR169_0.out (by repeat (with_reducible first | exact HB.out | refine below_set ?_ GE170.out))); (case side2 => exact HC169_0.out); rintro e w18 ⟨v172, rfl, ho0, hb⟩; refine ⟨_, rfl, ?_⟩; replace HO_1 := Aside0.mk (Kd.V_elder' (by (with_reducible repeat (first | apply Kd.V_alloc | apply Kd.V_drewN | apply Kd.V_drew)); exact (Kd.V_mono (Kd.V_far (p := ⟨gb170, 1, none⟩) (Kd.V_far (p := ⟨gb170, 0, none⟩) (Kd.V_mono HO_1.out (fun k_ hk => (⟨hk, hk.2⟩ : _ ∧ k_ ≠ gb170))) (fun _ hk => hk.2) (.slice A169_0 ((rd_T32 l0 x30_1).f0).length c169_0)) (fun _ hk => hk.2) (.int .i64 ((rd_T32 l0 x30_1).f1))) (fun _ h_ => h_.1))) (Kd.R_base ho0) hb); replace HO_7 := Aside0.mk (Kd.N_elder' (by (with_reducible repeat (first | apply Kd.N_alloc | apply Kd.N_drewN | apply Kd.N_drew)); exact (Kd.N_mono (Kd.N_far (p := ⟨gb170, 1, none⟩) (Kd.N_far (p := ⟨gb170, 0, none⟩) (Kd.N_mono HO_7.out (fun k_ hk => (⟨hk, hk.2⟩ : _ ∧ k_ ≠ gb170))) (fun _ hk => hk.2) (.slice A169_0 ((rd_T32 l0 x30_1).f0).length c169_0)) (fun _ hk => hk.2) (.int .i64 ((rd_T32 l0 x30_1).f1))) (fun _ h_ => h_.1))) (Kd.R_base ho0) hb); have HO173 := Aside0.mk (Kd.R_lower (Kd.R_newM (M := fun k_ => (w.heap.size ≤ k_)) ho0 (below_size (by repeat (with_reducible first | exact HB.out | refine below_set ?_ GE170.out))) (fun k_ h_ => h_)) (below_size (by repeat (with_reducible first | exact HB.out | refine below_set ?_ GE170.out)))); replace BK170 := Aside0.mk (blk_below (g := gb170) (o := .cells #[.slice A169_0 ((rd_T32 l0 x30_1).f0).length c169_0, .int .i64 ((rd_T32 l0 x30_1).f1)] 32 (0, 0)) (by (with_reducible repeat (first | refine blk_drewN ?_ _ | refine blk_drew ?_ | refine blk_alloc ?_ _)); refine blk_put (cs := #[.slice A169_0 ((rd_T32 l0 x30_1).f0).length c169_0, .int .i64 0]) ?_ 1 _ rfl; (with_reducible repeat (first | refine blk_drewN ?_ _ | refine blk_drew ?_ | refine blk_alloc ?_ _)); refine blk_put (cs := #[.slice none 0 0, .int .i64 0]) ?_ 0 _ rfl; (with_reducible repeat (first | refine blk_drewN ?_ _ | refine blk_drew ?_ | refine blk_alloc ?_ _)); exact BK170.out) hb); replace HB := Aside0.mk (below_step (by repeat (with_reducible first | exact HB.out | refine below_set ?_ GE170.out)) hb); (try clear hb); (try clear ho0); obtain ⟨Ao19, co19, eo19⟩ := Kd.R_slice HO173.out; subst eo19) | ((with_reducible refine gate_dst (N := 40) rfl ?_); refine goesLVC_ (some 40) rfl rfl Try.func55 (by kernel_rfl) rfl #[.slice Ao19 t171.length co19, .pointer (some ⟨gcap_, 0, none⟩)] #[.pointer (some ⟨gcap_, 0, none⟩)] rfl rfl (by (simp only [List.map_toArray, List.map_cons, List.map_nil, List.append_toArray, List.cons_append, List.nil_append]; rfl)) ?_; (with_reducible refine (plain_Bind_1.calls k1 (fun k_ => some k_ = (.slice Ao19 t171.length co19 : Value).ownBlock) _ _ t171 (fun k_ => ((((P1_ k_ ∨ w.heap.size ≤ k_) ∧ some k_ ≠ (v167 : Value).ownBlock) ∧ k_ ≠ gb170) ∧ some k_ ≠ (.slice Ao19 t171.length co19 : Value).ownBlock)) A1 c1 l1 t174 t177 _ ?side1 ?side2 A14.out gcap_ ?cap_).mono ?_); (case cap_ => exact ((show Below w.heap.size w _ from HB.out).cell (World.block_lt_of_cell? w _ hcap_)).trans hcap_); (case side1 => exact Kd.R_V (Kd.R_tight rfl (Kd.R_types (Kd.R_apart' (HO173.out) (Kd.N_typed HO_7.out) (by decide)) BK170.out (by decide)))); (case side2 => exact HO_1.out); rintro e w20 ⟨v175, rfl, ho0, hb⟩; refine ⟨_, rfl, ?_⟩; replace HO_1 := Aside0.mk (Kd.V_below (by (with_reducible repeat (first | apply Kd.V_alloc | apply Kd.V_drewN | apply Kd.V_drew)); exact HO_1.out) hb); have HO176 := Aside0.mk (Kd.V_lower (Kd.V_mono (ok' := fun k_ => (P1_ k_ ∨ w.heap.size ≤ k_) ∧ some k_ ≠ (v167 : Value).ownBlock ∧ k_ ≠ gb170) ho0 (fun k_ hk_ => ⟨Or.elim hk_ (fun hs_ => Or.elim hs_ (fun hs_ => (.inr (((Kd.R_types (Kd.R_apart' (HO173.out) (Kd.N_typed HO_7.out) (by decide)) BK170.out (by decide)).1 k_ hs_.symm).1.1.1))) (fun hs_ => hs_.1.1.1)) (fun hn_ => (.inr (Nat.le_trans (below_size HB.out) hn_))), Or.elim hk_ (fun hs_ => Or.elim hs_ (fun hs_ => ((Kd.R_types (Kd.R_apart' (HO173.out) (Kd.N_typed HO_7.out) (by decide)) BK170.out (by decide)).1 k_ hs_.symm).1.2) (fun hs_ => hs_.1.1.2)) (fun hn_ => (Kd.fresh' (Kd.N_lt (by (with_reducible repeat (first | apply Kd.N_alloc | apply Kd.N_drewN | apply Kd.N_drew)); exact HO_7.out)) k_ hn_)), Or.elim hk_ (fun hs_ => Or.elim hs_ (fun hs_ => ((Kd.R_types (Kd.R_apart' (HO173.out) (Kd.N_typed HO_7.out) (by decide)) BK170.out (by decide)).1 k_ hs_.symm).2) (fun hs_ => hs_.1.2)) (fun hn_ => (Kd.freshB (g := gb170) (o := .cells #[.slice A169_0 ((rd_T32 l0 x30_1).f0).length c169_0, .int .i64 ((rd_T32 l0 x30_1).f1)] 32 (0, 0)) (by (with_reducible repeat (first | refine blk_drewN ?_ _ | refine blk_drew ?_ | refine blk_alloc ?_ _)); exact BK170.out) k_ hn_))⟩)) (below_size HB.out)); replace HO_7 := Aside0.mk (Kd.N_below (by (with_reducible repeat (first | apply Kd.N_alloc | apply Kd.N_drewN | apply Kd.N_drew)); exact HO_7.out) hb); replace HO173 := Aside0.mk (Kd.R_below (by (with_reducible repeat (first | apply Kd.R_alloc | apply Kd.R_drewN | apply Kd.R_drew)); exact HO173.out) hb); replace BK170 := Aside0.mk (blk_below (g := gb170) (o := .cells #[.slice A169_0 ((rd_T32 l0 x30_1).f0).length c169_0, .int .i64 ((rd_T32 l0 x30_1).f1)] 32 (0, 0)) (by (with_reducible repeat (first | refine blk_drewN ?_ _ | refine blk_drew ?_ | refine blk_alloc ?_ _)); exact BK170.out) hb); replace HB := Aside0.mk (below_step HB.out hb); (try clear hb); (try clear ho0)))
         go_cut [12] (fun v12 wc => ∃ (kq : Nat) (x12_14 : Int), v12 = .int .i64 x12_14 ∧ Aside0 (dist_Bind.j1 kq l0 l1 x7_1 x8_1 x30_1 t174 x12_14 l0 (l0.length : Int) x30_1 = some (r1, r2)) ∧ Aside0 (kq ≤ k1) ∧ Aside0 (Kd.V k45 45 wc w.heap.size (fun k_ => (P1_ k_ ∨ w.heap.size ≤ k_) ∧ some k_ ≠ (v167 : Value).ownBlock ∧ k_ ≠ gb170) (.slice A1 l1.length c1) l1) ∧ Aside0 (Kd.N (Kd.slice 32 k32) 23 wc w.heap.size (fun k_ => (P1_ k_ ∨ w.heap.size ≤ k_) ∧ k_ ≠ gb170) v167 x7_1) ∧ Aside0 (Kd.V k32 32 wc w.heap.size (fun k_ => (P1_ k_ ∨ w.heap.size ≤ k_) ∧ some k_ ≠ (v167 : Value).ownBlock ∧ k_ ≠ gb170) v175 t174) ∧ Aside0 (wc.heap[gb170]? = some (.cells #[(.slice A169_0 ((rd_T32 l0 x30_1).f0).length c169_0), .int .i64 ((rd_T32 l0 x30_1).f1)] 32 (0, 0))) ∧ Aside0 (Below w.heap.size w wc))
         case first =>
          have H := HC15.out
          clear HC15
          by_cases c21 : t177 = 0
          ·
           rw [if_pos c21] at H
           have c21b0 : (t177 == 0) = true := beq_iff_eq.mpr c21
           have c21b1 : (t177 != 0) = false := bne_eq_false_iff_eq.mpr c21
           clear c21
           (rw [c21b0])
           obtain ⟨t178, A22, H⟩ := bnd_ H
           have H' := Aside0.mk H
           clear H
           obtain ⟨Ao23, co23, eo23⟩ := Kd.V_slice HO176.out
           subst eo23
           go_wp2_with (((with_reducible refine gate_callee (f := 13) rfl ?_); refine goesL_ (some 46) rfl rfl Try.func13 (by kernel_rfl) rfl #[.slice Ao23 t174.length co23] rfl (by (try simp only [List.map_toArray, List.map_cons, List.map_nil]); rfl) ?_; (with_reducible refine (dist_Wrong.calls k1 _ _ t174 t178 _ ?side1 ?side2 A22.out).mono ?_); (case side1 => repeat (exact (Kd.V_reads' HO176.out).2.2)); (case side2 => exact (Kd.V_reads' HO176.out).2.1); rintro e w24 ⟨rfl, hb⟩; refine ⟨_, rfl, ?_⟩; replace HO_1 := Aside0.mk (Kd.V_below (by (with_reducible repeat (first | apply Kd.V_alloc | apply Kd.V_drewN | apply Kd.V_drew)); exact HO_1.out) hb); replace HO_7 := Aside0.mk (Kd.N_below (by (with_reducible repeat (first | apply Kd.N_alloc | apply Kd.N_drewN | apply Kd.N_drew)); exact HO_7.out) hb); replace HO173 := Aside0.mk (Kd.R_below (by (with_reducible repeat (first | apply Kd.R_alloc | apply Kd.R_drewN | apply Kd.R_drew)); exact HO173.out) hb); replace HO176 := Aside0.mk (Kd.V_below (by (with_reducible repeat (first | apply Kd.V_alloc | apply Kd.V_drewN | apply Kd.V_drew)); exact HO176.out) hb); replace BK170 := Aside0.mk (blk_below (g := gb170) (o := .cells #[.slice A169_0 ((rd_T32 l0 x30_1).f0).length c169_0, .int .i64 ((rd_T32 l0 x30_1).f1)] 32 (0, 0)) (by (with_reducible repeat (first | refine blk_drewN ?_ _ | refine blk_drew ?_ | refine blk_alloc ?_ _)); exact BK170.out) hb); replace HB := Aside0.mk (below_step HB.out hb); (try clear hb)))
           go_meet
           case rel => exact ⟨_, (t178), rfl, H', ⟨by have := HK1.out; omega⟩, ⟨by (with_reducible repeat (first | apply Kd.V_alloc | apply Kd.V_drewN | apply Kd.V_drew)); exact Kd.V_mono HO_1.out (fun _ hk => ⟨hk.1.1.1, ⟨hk.1.1.2, hk.1.2⟩⟩)⟩, ⟨by (with_reducible repeat (first | apply Kd.N_alloc | apply Kd.N_drewN | apply Kd.N_drew)); exact Kd.N_mono HO_7.out (fun _ hk => ⟨hk.1.1, hk.1.2⟩)⟩, ⟨by (with_reducible repeat (first | apply Kd.V_alloc | apply Kd.V_drewN | apply Kd.V_drew)); exact HO176.out⟩, ⟨by (with_reducible repeat (first | refine blk_drewN ?_ _ | refine blk_drew ?_ | refine blk_alloc ?_ _)); exact BK170.out⟩, ⟨HB.out⟩⟩
          ·
           rw [if_neg c21] at H
           have c21b0 : (t177 == 0) = false := beq_eq_false_iff_ne.mpr c21
           have c21b1 : (t177 != 0) = true := bne_iff_ne.mpr c21
           (rw [c21b0])
           have H' := Aside0.mk H
           clear H
           go_wp2
           go_meet
           case rel => exact ⟨_, (t177), rfl, H', ⟨by have := HK1.out; omega⟩, ⟨by (with_reducible repeat (first | apply Kd.V_alloc | apply Kd.V_drewN | apply Kd.V_drew)); exact Kd.V_mono HO_1.out (fun _ hk => ⟨hk.1.1.1, ⟨hk.1.1.2, hk.1.2⟩⟩)⟩, ⟨by (with_reducible repeat (first | apply Kd.N_alloc | apply Kd.N_drewN | apply Kd.N_drew)); exact Kd.N_mono HO_7.out (fun _ hk => ⟨hk.1.1, hk.1.2⟩)⟩, ⟨by (with_reducible repeat (first | apply Kd.V_alloc | apply Kd.V_drewN | apply Kd.V_drew)); exact HO176.out⟩, ⟨by (with_reducible repeat (first | refine blk_drewN ?_ _ | refine blk_drew ?_ | refine blk_alloc ?_ _)); exact BK170.out⟩, ⟨HB.out⟩⟩
         case rest =>
          clear HC15
          try clear c10b0
          try clear c11b0
          try clear c12b0
          try clear hcz17_0
          try clear hcz17_1
          try clear hfz17_0
          try clear hfz17_1
          try clear hx169_0
          try clear hx169_1
          try clear p169
          try clear q169
          obtain ⟨kq, x12_14, rfl, HA, HJ14, HO_1, HO_7, HO_11, BK170, HB⟩ := hcut
          obtain ⟨Av_, cv_, ev_⟩ := Kd.V_slice HO_11.out
          subst ev_
          cases kq with
          | zero => exact absurd HA.out (by simp [dist_Bind.j1])
          | succ kj14 =>
           have H := HA.out
           clear HA
           simp only [dist_Bind.j1] at H
           by_cases c25 : x12_14 = 0
           ·
            rw [if_pos c25] at H
            have c25b0 : (x12_14 == 0) = true := beq_iff_eq.mpr c25
            have c25b1 : (x12_14 != 0) = false := bne_eq_false_iff_eq.mpr c25
            clear c25
            by_cases c26 : 0 ≤ x30_1
            ·
             rw [if_pos c26] at H
             have c26b0 : decide (0 ≤ x30_1) = true := decide_eq_true c26
             clear c26
             by_cases c27 : x30_1 < (x7_1.length : Int)
             ·
              rw [if_pos c27] at H
              have c27b0 : decide (x30_1 < (x7_1.length : Int)) = true := decide_eq_true c27
              clear c27
              obtain ⟨y179, hy179⟩ : ∃ y_ : List (List (S32)), y_ = (x7_1.set (x30_1 : Int).toNat t174) := ⟨_, rfl⟩
              replace H : ((dist_total.f kj14 t174).bind fun t180 => ((dist_gcd.f kj14 x8_1 t180).bind fun t181 => (if t181 = 0 then (none) else (if (wrap64 ((wrap64 (Int.tdiv x8_1 t181)) * t180)) > 1073741824 then (some (([] : List (S32)), 4)) else (dist_Bind.l0 kj14 l0 l1 y179 (wrap64 ((wrap64 (Int.tdiv x8_1 t181)) * t180)) l0 (l0.length : Int) (wrap64 (x30_1 + 1))))))) = some (r1, r2) := by (rw [hy179]; with_reducible exact H)
              have Ny179 := Aside0.mk hy179
              clear hy179
              obtain ⟨t180, A29, H⟩ := bnd_ H
              obtain ⟨t181, A30, H⟩ := bnd_ H
              by_cases c31 : t181 = 0
              ·
               rw [if_pos c31] at H
               exact absurd H (by simp)
              ·
               rw [if_neg c31] at H
               have c31b0 : (t181 == 0) = false := beq_eq_false_iff_ne.mpr c31
               have c31b1 : (t181 != 0) = true := bne_iff_ne.mpr c31
               by_cases c32 : (wrap64 ((wrap64 (Int.tdiv x8_1 t181)) * t180)) > 1073741824
               ·
                rw [if_pos c32] at H
                have c32b0 : decide (1073741824 < (wrap64 ((wrap64 (Int.tdiv x8_1 t181)) * t180))) = true := decide_eq_true c32
                clear c32
                simp only [Option.some.injEq, Prod.mk.injEq] at H
                obtain ⟨rfl, rfl⟩ := H
                have p28 : 0 ≤ (x30_1 : Int) := of_decide_eq_true (by (with_reducible assumption))
                have q28 : (x30_1 : Int) < ((x7_1.length : Int) : Int) := of_decide_eq_true (by (with_reducible assumption))
                obtain ⟨go28, co28, eo28, gb28, gl28, cl28, HG28⟩ := Kd.N_form HO_7.out (by omega)
                (cases eo28)
                have GB28 := Aside0.mk gb28
                have GG28 := Aside0.mk HG28
                clear gb28 gl28 HG28
                obtain ⟨ce28, hcl28, hM28, hcc28, hfr28⟩ := Kd.N_elem HO_7.out [] (x30_1 : Int) p28 q28
                obtain ⟨ua28_0, uc28_0, rfl, ul28_0, ge28_0⟩ := Kd.FK_slice_open hM28
                have hx28_0 := hcc28 0 _ rfl
                have hf28_0 := hfr28 0
                (try simp only [show ((Kd.slice 32 k32)).sz = 1 from rfl, Nat.mul_one, Nat.add_zero] at hx28_0)
                (try simp only [show ((Kd.slice 32 k32)).sz = 1 from rfl, Nat.mul_one, Nat.add_zero] at hf28_0)
                clear hcl28 hcc28 hfr28 hM28
                replace p28 := eq_true p28
                replace q28 := eq_true q28
                have HX33 := Aside0.mk (show Kd.N (Kd.slice 32 k32) 23 wc w.heap.size (fun k_ => (P1_ k_ ∨ w.heap.size ≤ k_) ∧ k_ ≠ gb170) (.slice (some ⟨go28, 0, none⟩) x7_1.length co28) x7_1 from (by (with_reducible repeat (first | apply Kd.N_alloc | apply Kd.N_drewN | apply Kd.N_drew)); exact HO_7.out))
                obtain ⟨ce33, hcl33, hM33, hcc33, hfr33⟩ := Kd.N_elem HX33.out [] (x30_1 : Int) (of_decide_eq_true (by (with_reducible assumption))) (by have h_ : (x30_1 : Int) < ((x7_1.length : Int) : Int) := of_decide_eq_true (by (with_reducible assumption)); exact h_)
                obtain ⟨ua33_0, uc33_0, rfl, ul33_0, ge33_0⟩ := Kd.FK_slice_open hM33
                have HP33 := Kd.N_seg HX33.out (x30_1 : Int) (of_decide_eq_true (by (with_reducible assumption))) (by have h_ : (x30_1 : Int) < ((x7_1.length : Int) : Int) := of_decide_eq_true (by (with_reducible assumption)); exact h_) (seg := [(.slice Av_ t174.length cv_ : Value)]) (j := 0) hcl33 hcc33 (show 1 ≤ 1 from by decide) (x' := t174) (Kd.FK_slice_mk (Kd.V_reads' (Kd.V_mono (ok' := (fun k_ => ((fun k_ => (P1_ k_ ∨ w.heap.size ≤ k_) ∧ k_ ≠ gb170)) k_ ∧ k_ ≠ go28)) (HO_11.out) (fun k_ hk => ⟨⟨hk.1, hk.2.2⟩, fun e_ => (hk.2.1) (by rw [e_]; rfl)⟩))).2.1 (Kd.V_F (Kd.V_mono (ok' := (fun k_ => ((fun k_ => (P1_ k_ ∨ w.heap.size ≤ k_) ∧ k_ ≠ gb170)) k_ ∧ k_ ≠ go28)) (HO_11.out) (fun k_ hk => ⟨⟨hk.1, hk.2.2⟩, fun e_ => (hk.2.1) (by rw [e_]; rfl)⟩)))) (fun _ hk => hk)
                have hx33_0 := hcc33 0 _ rfl
                (try simp only [show ((Kd.slice 32 k32)).sz = 1 from rfl, Nat.mul_one, Nat.add_zero] at hx33_0)
                have hf33_0 := hfr33 0
                (try simp only [show ((Kd.slice 32 k32)).sz = 1 from rfl, Nat.mul_one, Nat.add_zero] at hf33_0)
                clear hcl33 hcc33 hfr33 hM33
                (try simp only [show ((Kd.slice 32 k32)).sz = 1 from rfl, Nat.mul_one, Nat.add_zero] at HP33)
                go_wp2_with (first | ((with_reducible refine gate_store (t := 23) (p := 53) rfl ?_); refine store_event (t := 23) (p := 53) (v := ?vo_w34) (w1 := (wc.setCell ⟨go28, (x30_1 : Int).toNat, none⟩ ((.slice Av_ t174.length cv_ : Value)))) ?hg ?ho ?hn ?hr ?_; (case ho => rfl); (case hg => rfl); (case hn => rfl); (case hr => go_simp; done); intro w34 hw; have hg : wc.grownBy w34 (some go28) := (by rw [hw]; exact HP33.2); have hp_ : Kd.N (Kd.slice 32 k32) 23 w34 w.heap.size (fun k_ => (P1_ k_ ∨ w.heap.size ≤ k_) ∧ k_ ≠ gb170) (.slice (some ⟨go28, 0, none⟩) x7_1.length co28) y179 := (by rw [hw, Ny179.out]; exact HP33.1); clear HP33; replace HO_1 := Aside0.mk (Kd.V_afterv (v := (.slice (some ⟨go28, 0, none⟩) x7_1.length co28)) (v1 := (.slice (some ⟨go28, 0, none⟩) x7_1.length co28)) (ok := (fun k_ => (P1_ k_ ∨ w.heap.size ≤ k_) ∧ k_ ≠ gb170)) (by (with_reducible repeat (first | apply Kd.V_alloc | apply Kd.V_drewN | apply Kd.V_drew)); exact Kd.V_mono HO_1.out (fun _ hk => ⟨⟨hk.1, hk.2.2⟩, hk.2.1⟩)) hg (.inl rfl)); replace HO_11 := Aside0.mk (Kd.V_afterv (v := (.slice (some ⟨go28, 0, none⟩) x7_1.length co28)) (v1 := (.slice (some ⟨go28, 0, none⟩) x7_1.length co28)) (ok := (fun k_ => (P1_ k_ ∨ w.heap.size ≤ k_) ∧ k_ ≠ gb170)) (by (with_reducible repeat (first | apply Kd.V_alloc | apply Kd.V_drewN | apply Kd.V_drew)); exact Kd.V_mono HO_11.out (fun _ hk => ⟨⟨hk.1, hk.2.2⟩, hk.2.1⟩)) hg (.inl rfl)); replace BK170 := Aside0.mk (blk_grown (g := gb170) (o := .cells #[.slice A169_0 ((rd_T32 l0 x30_1).f0).length c169_0, .int .i64 ((rd_T32 l0 x30_1).f1)] 32 (0, 0)) (by (with_reducible repeat (first | refine blk_drewN ?_ _ | refine blk_drew ?_ | refine blk_alloc ?_ _)); exact BK170.out) hg (Kd.N_ne HO_7.out BK170.out (by decide))); replace HO_7 := Aside0.mk (hp_); replace HB := Aside0.mk ((by rw [hw]; exact below_set (HB.out) GB28.out : Below w.heap.size w w34)); clear hg hw hp_; obtain ⟨Ao35, co35, eo35⟩ := Kd.V_slice HO_11.out; (injection eo35 with ea_ en_ ec_; replace ea_ := ea_.symm; replace ec_ := ec_.symm; subst ea_; subst ec_; clear en_)) | ((with_reducible refine gate_callee (f := 48) rfl ?_); refine goesL_ (some 55) rfl rfl Try.func48 (by kernel_rfl) rfl #[.slice Ao35 t174.length co35] rfl (by (try simp only [List.map_toArray, List.map_cons, List.map_nil]); rfl) ?_; (with_reducible refine (dist_total.calls kj14 _ _ t174 t180 _ ?side1 ?side2 A29.out).mono ?_); (case side1 => repeat (exact (Kd.V_reads' HO_11.out).2.2)); (case side2 => exact (Kd.V_reads' HO_11.out).2.1); rintro e w36 ⟨rfl, hb⟩; refine ⟨_, rfl, ?_⟩; replace HO_1 := Aside0.mk (Kd.V_below (by (with_reducible repeat (first | apply Kd.V_alloc | apply Kd.V_drewN | apply Kd.V_drew)); exact HO_1.out) hb); replace HO_7 := Aside0.mk (Kd.N_below (by (with_reducible repeat (first | apply Kd.N_alloc | apply Kd.N_drewN | apply Kd.N_drew)); exact HO_7.out) hb); replace HO_11 := Aside0.mk (Kd.V_below (by (with_reducible repeat (first | apply Kd.V_alloc | apply Kd.V_drewN | apply Kd.V_drew)); exact HO_11.out) hb); replace BK170 := Aside0.mk (blk_below (g := gb170) (o := .cells #[.slice A169_0 ((rd_T32 l0 x30_1).f0).length c169_0, .int .i64 ((rd_T32 l0 x30_1).f1)] 32 (0, 0)) (by (with_reducible repeat (first | refine blk_drewN ?_ _ | refine blk_drew ?_ | refine blk_alloc ?_ _)); exact BK170.out) hb); replace HB := Aside0.mk (below_step HB.out hb); (try clear hb)) | ((with_reducible refine gate_callee (f := 52) rfl ?_); refine goesL_ (some 59) rfl rfl Try.func52 (by kernel_rfl) rfl #[.int .i64 x8_1, .int .i64 t180] rfl (by (try simp only [List.map_toArray, List.map_cons, List.map_nil]); rfl) ?_; (with_reducible refine (dist_gcd.calls kj14 x8_1 t180 t181 _ A30.out).mono ?_); rintro e w' ⟨rfl, ⟨nd, rfl⟩⟩; refine ⟨_, rfl, ?_⟩))
                go_ret2
                exact ⟨_, rfl, by exact Kd.N_nil _ _ _ _ _, by repeat (with_reducible first | exact HB.out | apply pw_below_drewN)⟩
               ·
                rw [if_neg c32] at H
                have c32b0 : decide (1073741824 < (wrap64 ((wrap64 (Int.tdiv x8_1 t181)) * t180))) = false := decide_eq_false c32
                clear c32
                have H' := Aside0.mk H
                clear H
                have p28 : 0 ≤ (x30_1 : Int) := of_decide_eq_true (by (with_reducible assumption))
                have q28 : (x30_1 : Int) < ((x7_1.length : Int) : Int) := of_decide_eq_true (by (with_reducible assumption))
                obtain ⟨go28, co28, eo28, gb28, gl28, cl28, HG28⟩ := Kd.N_form HO_7.out (by omega)
                (cases eo28)
                have GB28 := Aside0.mk gb28
                have GG28 := Aside0.mk HG28
                clear gb28 gl28 HG28
                obtain ⟨ce28, hcl28, hM28, hcc28, hfr28⟩ := Kd.N_elem HO_7.out [] (x30_1 : Int) p28 q28
                obtain ⟨ua28_0, uc28_0, rfl, ul28_0, ge28_0⟩ := Kd.FK_slice_open hM28
                have hx28_0 := hcc28 0 _ rfl
                have hf28_0 := hfr28 0
                (try simp only [show ((Kd.slice 32 k32)).sz = 1 from rfl, Nat.mul_one, Nat.add_zero] at hx28_0)
                (try simp only [show ((Kd.slice 32 k32)).sz = 1 from rfl, Nat.mul_one, Nat.add_zero] at hf28_0)
                clear hcl28 hcc28 hfr28 hM28
                replace p28 := eq_true p28
                replace q28 := eq_true q28
                have HX37 := Aside0.mk (show Kd.N (Kd.slice 32 k32) 23 wc w.heap.size (fun k_ => (P1_ k_ ∨ w.heap.size ≤ k_) ∧ k_ ≠ gb170) (.slice (some ⟨go28, 0, none⟩) x7_1.length co28) x7_1 from (by (with_reducible repeat (first | apply Kd.N_alloc | apply Kd.N_drewN | apply Kd.N_drew)); exact HO_7.out))
                obtain ⟨ce37, hcl37, hM37, hcc37, hfr37⟩ := Kd.N_elem HX37.out [] (x30_1 : Int) (of_decide_eq_true (by (with_reducible assumption))) (by have h_ : (x30_1 : Int) < ((x7_1.length : Int) : Int) := of_decide_eq_true (by (with_reducible assumption)); exact h_)
                obtain ⟨ua37_0, uc37_0, rfl, ul37_0, ge37_0⟩ := Kd.FK_slice_open hM37
                have HP37 := Kd.N_seg HX37.out (x30_1 : Int) (of_decide_eq_true (by (with_reducible assumption))) (by have h_ : (x30_1 : Int) < ((x7_1.length : Int) : Int) := of_decide_eq_true (by (with_reducible assumption)); exact h_) (seg := [(.slice Av_ t174.length cv_ : Value)]) (j := 0) hcl37 hcc37 (show 1 ≤ 1 from by decide) (x' := t174) (Kd.FK_slice_mk (Kd.V_reads' (Kd.V_mono (ok' := (fun k_ => ((fun k_ => (P1_ k_ ∨ w.heap.size ≤ k_) ∧ k_ ≠ gb170)) k_ ∧ k_ ≠ go28)) (HO_11.out) (fun k_ hk => ⟨⟨hk.1, hk.2.2⟩, fun e_ => (hk.2.1) (by rw [e_]; rfl)⟩))).2.1 (Kd.V_F (Kd.V_mono (ok' := (fun k_ => ((fun k_ => (P1_ k_ ∨ w.heap.size ≤ k_) ∧ k_ ≠ gb170)) k_ ∧ k_ ≠ go28)) (HO_11.out) (fun k_ hk => ⟨⟨hk.1, hk.2.2⟩, fun e_ => (hk.2.1) (by rw [e_]; rfl)⟩)))) (fun _ hk => hk)
                have hx37_0 := hcc37 0 _ rfl
                (try simp only [show ((Kd.slice 32 k32)).sz = 1 from rfl, Nat.mul_one, Nat.add_zero] at hx37_0)
                have hf37_0 := hfr37 0
                (try simp only [show ((Kd.slice 32 k32)).sz = 1 from rfl, Nat.mul_one, Nat.add_zero] at hf37_0)
                clear hcl37 hcc37 hfr37 hM37
                (try simp only [show ((Kd.slice 32 k32)).sz = 1 from rfl, Nat.mul_one, Nat.add_zero] at HP37)
                go_wp2_with (first | ((with_reducible refine gate_store (t := 23) (p := 53) rfl ?_); refine store_event (t := 23) (p := 53) (v := ?vo_w38) (w1 := (wc.setCell ⟨go28, (x30_1 : Int).toNat, none⟩ ((.slice Av_ t174.length cv_ : Value)))) ?hg ?ho ?hn ?hr ?_; (case ho => rfl); (case hg => rfl); (case hn => rfl); (case hr => go_simp; done); intro w38 hw; have hg : wc.grownBy w38 (some go28) := (by rw [hw]; exact HP37.2); have hp_ : Kd.N (Kd.slice 32 k32) 23 w38 w.heap.size (fun k_ => (P1_ k_ ∨ w.heap.size ≤ k_) ∧ k_ ≠ gb170) (.slice (some ⟨go28, 0, none⟩) x7_1.length co28) y179 := (by rw [hw, Ny179.out]; exact HP37.1); clear HP37; replace HO_1 := Aside0.mk (Kd.V_afterv (v := (.slice (some ⟨go28, 0, none⟩) x7_1.length co28)) (v1 := (.slice (some ⟨go28, 0, none⟩) x7_1.length co28)) (ok := (fun k_ => (P1_ k_ ∨ w.heap.size ≤ k_) ∧ k_ ≠ gb170)) (by (with_reducible repeat (first | apply Kd.V_alloc | apply Kd.V_drewN | apply Kd.V_drew)); exact Kd.V_mono HO_1.out (fun _ hk => ⟨⟨hk.1, hk.2.2⟩, hk.2.1⟩)) hg (.inl rfl)); replace HO_11 := Aside0.mk (Kd.V_afterv (v := (.slice (some ⟨go28, 0, none⟩) x7_1.length co28)) (v1 := (.slice (some ⟨go28, 0, none⟩) x7_1.length co28)) (ok := (fun k_ => (P1_ k_ ∨ w.heap.size ≤ k_) ∧ k_ ≠ gb170)) (by (with_reducible repeat (first | apply Kd.V_alloc | apply Kd.V_drewN | apply Kd.V_drew)); exact Kd.V_mono HO_11.out (fun _ hk => ⟨⟨hk.1, hk.2.2⟩, hk.2.1⟩)) hg (.inl rfl)); replace BK170 := Aside0.mk (blk_grown (g := gb170) (o := .cells #[.slice A169_0 ((rd_T32 l0 x30_1).f0).length c169_0, .int .i64 ((rd_T32 l0 x30_1).f1)] 32 (0, 0)) (by (with_reducible repeat (first | refine blk_drewN ?_ _ | refine blk_drew ?_ | refine blk_alloc ?_ _)); exact BK170.out) hg (Kd.N_ne HO_7.out BK170.out (by decide))); replace HO_7 := Aside0.mk (hp_); replace HB := Aside0.mk ((by rw [hw]; exact below_set (HB.out) GB28.out : Below w.heap.size w w38)); clear hg hw hp_; obtain ⟨Ao39, co39, eo39⟩ := Kd.V_slice HO_11.out; (injection eo39 with ea_ en_ ec_; replace ea_ := ea_.symm; replace ec_ := ec_.symm; subst ea_; subst ec_; clear en_)) | ((with_reducible refine gate_callee (f := 48) rfl ?_); refine goesL_ (some 55) rfl rfl Try.func48 (by kernel_rfl) rfl #[.slice Ao39 t174.length co39] rfl (by (try simp only [List.map_toArray, List.map_cons, List.map_nil]); rfl) ?_; (with_reducible refine (dist_total.calls kj14 _ _ t174 t180 _ ?side1 ?side2 A29.out).mono ?_); (case side1 => repeat (exact (Kd.V_reads' HO_11.out).2.2)); (case side2 => exact (Kd.V_reads' HO_11.out).2.1); rintro e w40 ⟨rfl, hb⟩; refine ⟨_, rfl, ?_⟩; replace HO_1 := Aside0.mk (Kd.V_below (by (with_reducible repeat (first | apply Kd.V_alloc | apply Kd.V_drewN | apply Kd.V_drew)); exact HO_1.out) hb); replace HO_7 := Aside0.mk (Kd.N_below (by (with_reducible repeat (first | apply Kd.N_alloc | apply Kd.N_drewN | apply Kd.N_drew)); exact HO_7.out) hb); replace HO_11 := Aside0.mk (Kd.V_below (by (with_reducible repeat (first | apply Kd.V_alloc | apply Kd.V_drewN | apply Kd.V_drew)); exact HO_11.out) hb); replace BK170 := Aside0.mk (blk_below (g := gb170) (o := .cells #[.slice A169_0 ((rd_T32 l0 x30_1).f0).length c169_0, .int .i64 ((rd_T32 l0 x30_1).f1)] 32 (0, 0)) (by (with_reducible repeat (first | refine blk_drewN ?_ _ | refine blk_drew ?_ | refine blk_alloc ?_ _)); exact BK170.out) hb); replace HB := Aside0.mk (below_step HB.out hb); (try clear hb)) | ((with_reducible refine gate_callee (f := 52) rfl ?_); refine goesL_ (some 59) rfl rfl Try.func52 (by kernel_rfl) rfl #[.int .i64 x8_1, .int .i64 t180] rfl (by (try simp only [List.map_toArray, List.map_cons, List.map_nil]); rfl) ?_; (with_reducible refine (dist_gcd.calls kj14 x8_1 t180 t181 _ A30.out).mono ?_); rintro e w' ⟨rfl, ⟨nd, rfl⟩⟩; refine ⟨_, rfl, ?_⟩))
                go_roundg kj14
                case measure => have := HK1.out; have := HJ14.out; omega
                case rel => exact ⟨(y179), (wrap64 ((wrap64 (Int.tdiv x8_1 t181)) * t180)), (wrap64 (x30_1 + 1)), rfl, rfl, H', ⟨by have := HK1.out; have := HJ14.out; omega⟩, ⟨by (with_reducible repeat (apply Kd.V_drewN)); exact Kd.V_mono HO_1.out (fun _ hk => ⟨hk.1.1, hk.2⟩)⟩, ⟨by (with_reducible repeat (apply Kd.N_drewN)); exact Kd.N_mono HO_7.out (fun _ hk => hk.1)⟩, ⟨by repeat (with_reducible first | exact HB.out | apply pw_below_drewN)⟩⟩
             ·
              rw [if_neg c27] at H
              exact absurd H (by simp)
            ·
             rw [if_neg c26] at H
             exact absurd H (by simp)
           ·
            rw [if_neg c25] at H
            have c25b0 : (x12_14 == 0) = false := beq_eq_false_iff_ne.mpr c25
            have c25b1 : (x12_14 != 0) = true := bne_iff_ne.mpr c25
            simp only [Option.some.injEq, Prod.mk.injEq] at H
            obtain ⟨rfl, rfl⟩ := H
            go_wp2
            go_ret2
            exact ⟨_, rfl, by exact Kd.N_nil _ _ _ _ _, HB.out⟩
        ·
         rw [if_neg c12] at H
         exact absurd H (by simp)
       ·
        rw [if_neg c11] at H
        exact absurd H (by simp)
      ·
       rw [if_neg c10] at H
       have c10b0 : decide (x30_1 < (l0.length : Int)) = false := decide_eq_false c10
       clear c10
       obtain ⟨t182, A41, H⟩ := bnd_ H
       by_cases c42 : (wrap64 (x8_1 * t182)) > 1073741824
       ·
        rw [if_pos c42] at H
        have c42b0 : decide (1073741824 < (wrap64 (x8_1 * t182))) = true := decide_eq_true c42
        clear c42
        simp only [Option.some.injEq, Prod.mk.injEq] at H
        obtain ⟨rfl, rfl⟩ := H
        go_wp2_with (((with_reducible refine gate_callee (f := 48) rfl ?_); refine goesL_ (some 68) rfl rfl Try.func48 (by kernel_rfl) rfl #[.slice A0 l0.length c0] rfl (by (try simp only [List.map_toArray, List.map_cons, List.map_nil]); rfl) ?_; (with_reducible refine (dist_total.calls k1 _ _ l0 t182 _ ?side1 ?side2 A41.out).mono ?_); (case side1 => repeat (exact (Kd.C_below HR0.out HB.out))); (case side2 => exact HC0.out); rintro e w43 ⟨rfl, hb⟩; refine ⟨_, rfl, ?_⟩; replace HO_1 := Aside0.mk (Kd.V_below (by (with_reducible repeat (first | apply Kd.V_alloc | apply Kd.V_drewN | apply Kd.V_drew)); exact HO_1.out) hb); replace HO_7 := Aside0.mk (Kd.N_below (by (with_reducible repeat (first | apply Kd.N_alloc | apply Kd.N_drewN | apply Kd.N_drew)); exact HO_7.out) hb); replace HB := Aside0.mk (below_step HB.out hb); (try clear hb)))
        go_ret2
        exact ⟨_, rfl, by exact Kd.N_nil _ _ _ _ _, HB.out⟩
       ·
        rw [if_neg c42] at H
        have c42b0 : decide (1073741824 < (wrap64 (x8_1 * t182))) = false := decide_eq_false c42
        clear c42
        have H' := Aside0.mk H
        clear H
        go_wp2_with (((with_reducible refine gate_callee (f := 48) rfl ?_); refine goesL_ (some 68) rfl rfl Try.func48 (by kernel_rfl) rfl #[.slice A0 l0.length c0] rfl (by (try simp only [List.map_toArray, List.map_cons, List.map_nil]); rfl) ?_; (with_reducible refine (dist_total.calls k1 _ _ l0 t182 _ ?side1 ?side2 A41.out).mono ?_); (case side1 => repeat (exact (Kd.C_below HR0.out HB.out))); (case side2 => exact HC0.out); rintro e w44 ⟨rfl, hb⟩; refine ⟨_, rfl, ?_⟩; replace HO_1 := Aside0.mk (Kd.V_below (by (with_reducible repeat (first | apply Kd.V_alloc | apply Kd.V_drewN | apply Kd.V_drew)); exact HO_1.out) hb); replace HO_7 := Aside0.mk (Kd.N_below (by (with_reducible repeat (first | apply Kd.N_alloc | apply Kd.N_drewN | apply Kd.N_drew)); exact HO_7.out) hb); replace HB := Aside0.mk (below_step HB.out hb); (try clear hb)))
        go_loopg [14, 73] k1 (fun kq v14 v73 w' => ∃ (x14_2 : List (S32)) (x73_2 : Int), v73 = .int .i64 x73_2 ∧ Aside0 (dist_Bind.l1 kq x7_1 x8_1 x14_2 l0 (l0.length : Int) x73_2 = some (r1, r2)) ∧ Aside0 (kq ≤ k1) ∧ Aside0 (Kd.N (Kd.slice 32 k32) 23 w' w.heap.size (fun k_ => (P1_ k_ ∨ w.heap.size ≤ k_) ∧ some k_ ≠ (v14 : Value).ownBlock) v167 x7_1) ∧ Aside0 (Kd.N k32 32 w' w.heap.size (fun k_ => (w.heap.size ≤ k_) ∧ some k_ ≠ (v167 : Value).ownBlock) v14 x14_2) ∧ Aside0 (Below w.heap.size w w'))
        case atStart => exact ⟨(([] : List (S32))), (0), rfl, H', ⟨Nat.le_refl _⟩, ⟨by (with_reducible repeat (first | apply Kd.N_alloc | apply Kd.N_drewN | apply Kd.N_drew)); exact Kd.N_mono HO_7.out (fun _ hk => ⟨hk, (by simp [Value.ownBlock])⟩)⟩, ⟨by exact Kd.N_nil _ _ _ _ _⟩, ⟨HB.out⟩⟩
        case round =>
         clear H'
         try clear c10b0
         try clear c42b0
         obtain ⟨x14_2, x73_2, rfl, HA, HK2, HO_7, HO_14, HB⟩ := hrel
         cases gk with
         | zero => exact absurd HA.out (by simp [dist_Bind.l1])
         | succ k2 =>
          have H := HA.out
          clear HA
          simp only [dist_Bind.l1] at H
          by_cases c45 : x73_2 < (l0.length : Int)
          ·
           rw [if_pos c45] at H
           have c45b0 : decide (x73_2 < (l0.length : Int)) = true := decide_eq_true c45
           clear c45
           by_cases c46 : 0 ≤ x73_2
           ·
            rw [if_pos c46] at H
            have c46b0 : decide (0 ≤ x73_2) = true := decide_eq_true c46
            clear c46
            by_cases c47 : x73_2 < (l0.length : Int)
            ·
             rw [if_pos c47] at H
             have c47b0 : decide (x73_2 < (l0.length : Int)) = true := decide_eq_true c47
             clear c47
             by_cases c48 : x73_2 < (x7_1.length : Int)
             ·
              rw [if_pos c48] at H
              have c48b0 : decide (x73_2 < (x7_1.length : Int)) = true := decide_eq_true c48
              clear c48
              obtain ⟨t190, A49, H⟩ := bnd_ H
              by_cases c50 : t190 = 0
              ·
               rw [if_pos c50] at H
               exact absurd H (by simp)
              ·
               rw [if_neg c50] at H
               have c50b0 : (t190 == 0) = false := beq_eq_false_iff_ne.mpr c50
               have c50b1 : (t190 != 0) = true := bne_iff_ne.mpr c50
               have H' := Aside0.mk H
               clear H
               have p187 : 0 ≤ (x73_2 : Int) := of_decide_eq_true (by (with_reducible assumption))
               have q187 : x73_2 < (l0.length : Int) := of_decide_eq_true (by (with_reducible assumption))
               obtain ⟨ad187, A187_0, c187_0, e187, hx187_0, hx187_1, hl187_0, hi187_0⟩ := at_T32 HR0.out x73_2 p187 q187
               cases e187
               replace hx187_0 := (HB.out.cell (World.block_lt_of_cell? w _ hx187_0)).trans hx187_0
               replace hx187_1 := (HB.out.cell (World.block_lt_of_cell? w _ hx187_1)).trans hx187_1
               have HR187_0 := Aside0.mk hi187_0
               have HC187_0 := Aside0.mk hl187_0
               clear hi187_0 hl187_0
               replace p187 := eq_true p187
               replace q187 := eq_true q187
               go_wp2_with (first | ((with_reducible refine gate_dst (N := 16) rfl ?_); refine box_event ?hg (N := 16) ?hd (cs := #[.slice none 0 0, .int .i64 0]) (t := 32) ?hr ?_; (case hd | hg => rfl); (case hr => go_simp; done); intro gb188 hg w51 hbox hb; replace HO_7 := Aside0.mk (Kd.N_below (Kd.N_elderB (by (with_reducible repeat (first | apply Kd.N_alloc | apply Kd.N_drewN | apply Kd.N_drew)); exact HO_7.out) gb188 (Nat.le_of_eq hg.symm)) hb); replace HO_14 := Aside0.mk (Kd.N_below (Kd.N_elderB (by (with_reducible repeat (first | apply Kd.N_alloc | apply Kd.N_drewN | apply Kd.N_drew)); exact HO_14.out) gb188 (Nat.le_of_eq hg.symm)) hb); have BK188 := Aside0.mk (hbox); have GW188 := gw_ HB.out hg; have GE188 := gw_ HB.out hg; replace HB := Aside0.mk (below_step HB.out hb); clear hb hbox hg; have hcz52_0 := cz0_ BK188; have hcz52_1 := cz1_ BK188; have hfz52_0 := blk_frozen BK188.out 0; have hfz52_1 := blk_frozen BK188.out 1) | ((with_reducible refine gate_store (t := 32) (p := 16) rfl ?_); refine store_event (t := 32) (p := 16) (v := ?vo_w53) (w1 := ((w51.setCell ⟨gb188, 0, none⟩ (.slice A187_0 ((rd_T32 l0 x73_2).f0).length c187_0)).setCell ⟨gb188, 1, none⟩ (.int .i64 ((rd_T32 l0 x73_2).f1)))) ?hg ?ho ?hn ?hr ?_; (case ho => rfl); (case hg => rfl); (case hn => rfl); (case hr => go_simp; done); intro w53 hw; have n0_ : Aside0 (Kd.N (Kd.slice 32 k32) 23 w53 w.heap.size (fun k_ => (P1_ k_ ∨ w.heap.size ≤ k_) ∧ some k_ ≠ (u14 : Value).ownBlock ∧ k_ ≠ gb188) v167 x7_1) := ⟨(by rw [hw]; exact (by (with_reducible repeat (first | apply Kd.N_alloc | apply Kd.N_drewN | apply Kd.N_drew)); exact Kd.N_mono (Kd.N_far (p := ⟨gb188, 1, none⟩) (Kd.N_far (p := ⟨gb188, 0, none⟩) (Kd.N_mono HO_7.out (fun k_ hk => (⟨hk, hk.2⟩ : _ ∧ k_ ≠ gb188))) (fun _ hk => hk.2) (.slice A187_0 ((rd_T32 l0 x73_2).f0).length c187_0)) (fun _ hk => hk.2) (.int .i64 ((rd_T32 l0 x73_2).f1))) (fun _ hk => ⟨hk.1.1.1, ⟨hk.1.1.2, hk.1.2⟩⟩)))⟩; have n1_ : Aside0 (Kd.N k32 32 w53 w.heap.size (fun k_ => (w.heap.size ≤ k_) ∧ some k_ ≠ (v167 : Value).ownBlock ∧ k_ ≠ gb188) u14 x14_2) := ⟨(by rw [hw]; exact (by (with_reducible repeat (first | apply Kd.N_alloc | apply Kd.N_drewN | apply Kd.N_drew)); exact Kd.N_mono (Kd.N_far (p := ⟨gb188, 1, none⟩) (Kd.N_far (p := ⟨gb188, 0, none⟩) (Kd.N_mono HO_14.out (fun k_ hk => (⟨hk, hk.2⟩ : _ ∧ k_ ≠ gb188))) (fun _ hk => hk.2) (.slice A187_0 ((rd_T32 l0 x73_2).f0).length c187_0)) (fun _ hk => hk.2) (.int .i64 ((rd_T32 l0 x73_2).f1))) (fun _ hk => ⟨hk.1.1.1, ⟨hk.1.1.2, hk.1.2⟩⟩)))⟩; have n2_ : Aside0 (w53.heap[gb188]? = some (.cells #[.slice A187_0 ((rd_T32 l0 x73_2).f0).length c187_0, .int .i64 ((rd_T32 l0 x73_2).f1)] 32 (0, 0))) := ⟨(by rw [hw]; exact (by (with_reducible repeat (first | refine blk_drewN ?_ _ | refine blk_drew ?_ | refine blk_alloc ?_ _)); refine blk_put (cs := #[.slice A187_0 ((rd_T32 l0 x73_2).f0).length c187_0, .int .i64 0]) ?_ 1 _ rfl; (with_reducible repeat (first | refine blk_drewN ?_ _ | refine blk_drew ?_ | refine blk_alloc ?_ _)); refine blk_put (cs := #[.slice none 0 0, .int .i64 0]) ?_ 0 _ rfl; (with_reducible repeat (first | refine blk_drewN ?_ _ | refine blk_drew ?_ | refine blk_alloc ?_ _)); exact BK188.out))⟩; have n3_ : Aside0 (Below w.heap.size w w53) := ⟨(by rw [hw]; exact (by repeat (with_reducible first | exact HB.out | refine below_set ?_ GE188.out)))⟩; clear hw; clear HO_7; clear HO_14; clear BK188; clear HB; have HO_7 := n0_; have HO_14 := n1_; have BK188 := n2_; have HB := n3_; clear n0_ n1_ n2_ n3_; obtain ⟨Ao54, co54, eo54⟩ := Kd.N_slice HO_7.out; subst eo54; have p189 : 0 ≤ (x73_2 : Int) := of_decide_eq_true (by (with_reducible assumption)); have q189 : x73_2 < (x7_1.length : Int) := of_decide_eq_true (by (with_reducible assumption)); obtain ⟨ad189, A189_0, c189_0, e189, hx189_0, hl189_0, hi189_0⟩ := at_L3 (Kd.N_reads' HO_7.out).2.2 x73_2 p189 q189; cases e189; obtain ⟨ce189, hce189, hMe189, hcc189⟩ := Kd.N_get HO_7.out [] x73_2 p189 (by exact q189); obtain ⟨ua189_0, uc189_0, rfl, ul189_0, ge189_0⟩ := Kd.FK_slice_open hMe189; have hv189_0 := hcc189 0 _ rfl; rw [Nat.add_zero, show ((Kd.slice 32 k32)).sz = 1 from rfl, Nat.mul_one] at hv189_0; replace hv189_0 := Option.some.inj (hv189_0.symm.trans hx189_0); injection hv189_0 with hva_ hvn_ hvc_; rw [hva_] at ge189_0; rw [hvc_] at ul189_0; have HL189_0 := Aside0.mk (show Kd.V k32 32 _ w.heap.size _ _ (rd_L3 x7_1 x73_2) from Kd.V_mk ul189_0 ge189_0); clear hva_ hvn_ hvc_ ge189_0 ul189_0; clear hcc189 hce189; have HR189_0 := Aside0.mk hi189_0; have HC189_0 := Aside0.mk hl189_0; clear hi189_0 hl189_0; replace p189 := eq_true p189; replace q189 := eq_true q189) | ((with_reducible refine gate_callee (f := 48) rfl ?_); refine goesL_ (some 83) rfl rfl Try.func48 (by kernel_rfl) rfl #[.slice A189_0 (rd_L3 x7_1 x73_2).length c189_0] rfl (by (try simp only [List.map_toArray, List.map_cons, List.map_nil]); rfl) ?_; (with_reducible refine (dist_total.calls k2 _ _ (rd_L3 x7_1 x73_2) t190 _ ?side1 ?side2 A49.out).mono ?_); (case side1 => repeat (exact HR189_0.out)); (case side2 => exact HC189_0.out); rintro e w55 ⟨rfl, hb⟩; refine ⟨_, rfl, ?_⟩; replace HO_7 := Aside0.mk (Kd.N_below (by (with_reducible repeat (first | apply Kd.N_alloc | apply Kd.N_drewN | apply Kd.N_drew)); exact HO_7.out) hb); replace HO_14 := Aside0.mk (Kd.N_below (by (with_reducible repeat (first | apply Kd.N_alloc | apply Kd.N_drewN | apply Kd.N_drew)); exact HO_14.out) hb); replace HL189_0 := Aside0.mk (Kd.V_below (by (with_reducible repeat (first | apply Kd.V_alloc | apply Kd.V_drewN | apply Kd.V_drew)); exact HL189_0.out) hb); replace BK188 := Aside0.mk (blk_below (g := gb188) (o := .cells #[.slice A187_0 ((rd_T32 l0 x73_2).f0).length c187_0, .int .i64 ((rd_T32 l0 x73_2).f1)] 32 (0, 0)) (by (with_reducible repeat (first | refine blk_drewN ?_ _ | refine blk_drew ?_ | refine blk_alloc ?_ _)); exact BK188.out) hb); replace HR189_0 := Aside0.mk (Kd.C_below HR189_0.out hb); replace HB := Aside0.mk (below_step HB.out hb); (try clear hb); have p191 : 0 ≤ (x73_2 : Int) := of_decide_eq_true (by (with_reducible assumption)); have q191 : x73_2 < (x7_1.length : Int) := of_decide_eq_true (by (with_reducible assumption)); obtain ⟨ad191, A191_0, c191_0, e191, hx191_0, hl191_0, hi191_0⟩ := at_L3 (Kd.N_reads' HO_7.out).2.2 x73_2 p191 q191; obtain rfl : ad189 = ad191 := (by injection e191); obtain ⟨ce191, hce191, hMe191, hcc191⟩ := Kd.N_get HO_7.out [] x73_2 p191 (by exact q191); obtain ⟨ua191_0, uc191_0, rfl, ul191_0, ge191_0⟩ := Kd.FK_slice_open hMe191; have hv191_0 := hcc191 0 _ rfl; rw [Nat.add_zero, show ((Kd.slice 32 k32)).sz = 1 from rfl, Nat.mul_one] at hv191_0; replace hv191_0 := Option.some.inj (hv191_0.symm.trans hx191_0); injection hv191_0 with hva_ hvn_ hvc_; rw [hva_] at ge191_0; rw [hvc_] at ul191_0; have HL191_0 := Aside0.mk (show Kd.V k32 32 _ w.heap.size _ _ (rd_L3 x7_1 x73_2) from Kd.V_mk ul191_0 ge191_0); clear hva_ hvn_ hvc_ ge191_0 ul191_0; clear hcc191 hce191; have HR191_0 := Aside0.mk hi191_0; have HC191_0 := Aside0.mk hl191_0; clear hi191_0 hl191_0; replace p191 := eq_true p191; replace q191 := eq_true q191))
               go_loopg [14, 90] k2 (fun kq v14 v90 w' => ∃ (x14_3 : List (S32)) (x90_3 : Int), v90 = .int .i64 x90_3 ∧ Aside0 (dist_Bind.l2 kq x7_1 x8_1 x14_3 (wrap64 (Int.tdiv x8_1 t190)) l0 (l0.length : Int) x73_2 (rd_L3 x7_1 x73_2) ((rd_L3 x7_1 x73_2).length : Int) x90_3 ((rd_T32 l0 x73_2).f0) ((rd_T32 l0 x73_2).f1) = some (r1, r2)) ∧ Aside0 (kq ≤ k2) ∧ Aside0 (Kd.N (Kd.slice 32 k32) 23 w' w.heap.size (fun k_ => (P1_ k_ ∨ w.heap.size ≤ k_) ∧ some k_ ≠ (v14 : Value).ownBlock ∧ k_ ≠ gb188) (.slice (some ad189) x7_1.length co54) x7_1) ∧ Aside0 (Kd.V k32 32 w' w.heap.size (fun k_ => (P1_ k_ ∨ w.heap.size ≤ k_) ∧ some k_ ≠ (v14 : Value).ownBlock ∧ k_ ≠ gb188) (.slice A191_0 (rd_L3 x7_1 x73_2).length c191_0) (rd_L3 x7_1 x73_2)) ∧ Aside0 (Kd.N k32 32 w' w.heap.size (fun k_ => (w.heap.size ≤ k_) ∧ some k_ ≠ ((.slice (some ad189) x7_1.length co54) : Value).ownBlock ∧ k_ ≠ gb188) v14 x14_3) ∧ Aside0 (w'.heap[gb188]? = some (.cells #[(.slice A187_0 ((rd_T32 l0 x73_2).f0).length c187_0), .int .i64 ((rd_T32 l0 x73_2).f1)] 32 (0, 0))) ∧ Aside0 (Below w.heap.size w w'))
               case atStart => exact ⟨(x14_2), (0), rfl, H', ⟨Nat.le_refl _⟩, ⟨by (with_reducible repeat (first | apply Kd.N_alloc | apply Kd.N_drewN | apply Kd.N_drew)); exact HO_7.out⟩, ⟨by (with_reducible repeat (first | apply Kd.V_alloc | apply Kd.V_drewN | apply Kd.V_drew)); exact Kd.V_mono HL191_0.out (fun _ hk => hk.1)⟩, ⟨by (with_reducible repeat (first | apply Kd.N_alloc | apply Kd.N_drewN | apply Kd.N_drew)); exact HO_14.out⟩, ⟨by (with_reducible repeat (first | refine blk_drewN ?_ _ | refine blk_drew ?_ | refine blk_alloc ?_ _)); exact BK188.out⟩, ⟨HB.out⟩⟩
               case round =>
                clear H'
                try clear c45b0
                try clear c46b0
                try clear c47b0
                try clear c48b0
                try clear c50
                try clear c50b0
                try clear c50b1
                try clear hcz52_0
                try clear hcz52_1
                try clear hfz52_0
                try clear hfz52_1
                try clear hx187_0
                try clear hx187_1
                try clear hx189_0
                try clear hx191_0
                try clear p187
                try clear p189
                try clear p191
                try clear q187
                try clear q189
                try clear q191
                obtain ⟨x14_3, x90_3, rfl, HA, HK3, HO_7, HQ191, HO_14, BK188, HB⟩ := hrel
                cases gk with
                | zero => exact absurd HA.out (by simp [dist_Bind.l2])
                | succ k3 =>
                 have H := HA.out
                 clear HA
                 simp only [dist_Bind.l2] at H
                 by_cases c56 : x90_3 < ((rd_L3 x7_1 x73_2).length : Int)
                 ·
                  rw [if_pos c56] at H
                  have c56b0 : decide (x90_3 < ((rd_L3 x7_1 x73_2).length : Int)) = true := decide_eq_true c56
                  clear c56
                  by_cases c57 : 0 ≤ x90_3
                  ·
                   rw [if_pos c57] at H
                   have c57b0 : decide (0 ≤ x90_3) = true := decide_eq_true c57
                   clear c57
                   by_cases c58 : x90_3 < ((rd_L3 x7_1 x73_2).length : Int)
                   ·
                    rw [if_pos c58] at H
                    have c58b0 : decide (x90_3 < ((rd_L3 x7_1 x73_2).length : Int)) = true := decide_eq_true c58
                    clear c58
                    obtain ⟨t194, A59, H⟩ := bnd_ H
                    by_cases c60 : x14_3.length < 4398046511104
                    ·
                     rw [if_pos c60] at H
                     have LMc60 := Aside0.mk c60
                     clear c60
                     obtain ⟨y197, hy197⟩ : ∃ y_ : List (S32), y_ = (x14_3 ++ [(⟨t194, wrap64 ((wrap64 (((rd_T32 l0 x73_2).f1) * (wrap64 (Int.tdiv x8_1 t190)))) * ((rd_T32 (rd_L3 x7_1 x73_2) x90_3).f1))⟩ : S32)]) := ⟨_, rfl⟩
                     replace H : (dist_Bind.l2 k3 x7_1 x8_1 y197 (wrap64 (Int.tdiv x8_1 t190)) l0 (l0.length : Int) x73_2 (rd_L3 x7_1 x73_2) ((rd_L3 x7_1 x73_2).length : Int) (wrap64 (x90_3 + 1)) ((rd_T32 l0 x73_2).f0) ((rd_T32 l0 x73_2).f1)) = some (r1, r2) := by (rw [hy197]; with_reducible exact H)
                     have Ny197 := Aside0.mk hy197
                     clear hy197
                     have H' := Aside0.mk H
                     clear H
                     have p192 : 0 ≤ (x90_3 : Int) := of_decide_eq_true (by (with_reducible assumption))
                     have q192 : x90_3 < ((rd_L3 x7_1 x73_2).length : Int) := of_decide_eq_true (by (with_reducible assumption))
                     obtain ⟨ad192, A192_0, c192_0, e192, hx192_0, hx192_1, hl192_0, hi192_0⟩ := at_T32 (Kd.V_reads' HQ191.out).2.2 x90_3 p192 q192
                     cases e192
                     obtain ⟨ce192, hce192, hMe192, hcc192⟩ := Kd.V_get HQ191.out ⟨[], 0⟩ x90_3 p192 q192
                     obtain ⟨ua192, uc192, rfl, ul192, ge192⟩ := k32_openF hMe192
                     have hv192 := hcc192 0 _ rfl
                     rw [Nat.add_zero, show k32.sz = 2 from rfl] at hv192
                     replace hv192 := Option.some.inj (hv192.symm.trans hx192_0)
                     injection hv192 with hva_ hvn_ hvc_; rw [hva_] at ge192; rw [hvc_] at ul192
                     have HE192 := Aside0.mk (show Kd.V (Kd.int .i64) 3 _ w.heap.size _ (.slice A192_0 ((rd_T32 (rd_L3 x7_1 x73_2) x90_3).f0).length c192_0) ((rd_T32 (rd_L3 x7_1 x73_2) x90_3).f0) from Kd.V_mk ul192 ge192)
                     clear hva_ hvn_ hvc_ ge192 ul192 hcc192 hce192
                     have HR192_0 := Aside0.mk hi192_0
                     have HC192_0 := Aside0.mk hl192_0
                     clear hi192_0 hl192_0
                     replace p192 := eq_true p192
                     replace q192 := eq_true q192
                     try go_wp2_with (((with_reducible refine gate_dst (N := 19) rfl ?_); refine box_event ?hg (N := 19) ?hd (cs := #[.slice none 0 0, .int .i64 0]) (t := 32) ?hr ?_; (case hd | hg => rfl); (case hr => go_simp; done); intro gb193 hg w61 hbox hb; have n0_ := Aside0.mk (Kd.N_below (Kd.N_elderB (by (with_reducible repeat (first | apply Kd.N_alloc | apply Kd.N_drewN | apply Kd.N_drew)); exact HO_7.out) gb193 (Nat.le_of_eq hg.symm)) hb); have nq191_ := Aside0.mk (Kd.V_below (Kd.V_elderB (by (with_reducible repeat (first | apply Kd.V_alloc | apply Kd.V_drewN | apply Kd.V_drew)); exact HQ191.out) gb193 (Nat.le_of_eq hg.symm)) hb); have ne192_ := Aside0.mk (Kd.V_below (Kd.V_elderB (by (with_reducible repeat (first | apply Kd.V_alloc | apply Kd.V_drewN | apply Kd.V_drew)); exact HE192.out) gb193 (Nat.le_of_eq hg.symm)) hb); have n1_ := Aside0.mk (Kd.N_below (Kd.N_elderB (by (with_reducible repeat (first | apply Kd.N_alloc | apply Kd.N_drewN | apply Kd.N_drew)); exact HO_14.out) gb193 (Nat.le_of_eq hg.symm)) hb); have n2_ := Aside0.mk (blk_below (g := gb188) (o := .cells #[.slice A187_0 ((rd_T32 l0 x73_2).f0).length c187_0, .int .i64 ((rd_T32 l0 x73_2).f1)] 32 (0, 0)) (by (with_reducible repeat (first | refine blk_drewN ?_ _ | refine blk_drew ?_ | refine blk_alloc ?_ _)); exact BK188.out) hb); have n3_ := Aside0.mk (below_step HB.out hb); have n4_ := Aside0.mk (hbox); have n5_ := gw_ HB.out hg; have n6_ := gw_ HB.out hg; have n7_ := Aside0.mk ((by rw [hg]; exact Nat.ne_of_lt (blk_lt (g := gb188) (o := .cells #[.slice A187_0 ((rd_T32 l0 x73_2).f0).length c187_0, .int .i64 ((rd_T32 l0 x73_2).f1)] 32 (0, 0)) (by (with_reducible repeat (first | refine blk_drewN ?_ _ | refine blk_drew ?_ | refine blk_alloc ?_ _)); exact BK188.out)) : gb188 ≠ gb193)); have n8_ := Aside0.mk ((by rw [hg]; exact Nat.ne_of_gt (blk_lt (g := gb188) (o := .cells #[.slice A187_0 ((rd_T32 l0 x73_2).f0).length c187_0, .int .i64 ((rd_T32 l0 x73_2).f1)] 32 (0, 0)) (by (with_reducible repeat (first | refine blk_drewN ?_ _ | refine blk_drew ?_ | refine blk_alloc ?_ _)); exact BK188.out)) : gb193 ≠ gb188)); clear HO_7; clear HE192; clear HQ191; clear HO_14; clear BK188; clear HB; have HO_7 := n0_; have HE192 := ne192_; have HQ191 := nq191_; have HO_14 := n1_; have BK188 := n2_; have HB := n3_; have BK193 := n4_; have GW193 := n5_; have GE193 := n6_; have NB188_193 := n7_; have NB193_188 := n8_; clear nq191_ n0_ n1_ n2_ n3_ n4_ n5_ n6_ n7_ n8_; clear hb hbox hg; have hnb62 := NB193_188.out; have hnc62 := NB188_193.out; have hcz63_0 := cz0_ BK193; have hcz63_1 := cz1_ BK193; have hfz63_0 := blk_frozen BK193.out 0; have hfz63_1 := blk_frozen BK193.out 1))
                     have n0_ : Aside0 (Kd.N (Kd.slice 32 k32) 23 ((w61.setCell ⟨gb193, 0, none⟩ (.slice A192_0 ((rd_T32 (rd_L3 x7_1 x73_2) x90_3).f0).length c192_0)).setCell ⟨gb193, 1, none⟩ (.int .i64 ((rd_T32 (rd_L3 x7_1 x73_2) x90_3).f1))) w.heap.size (fun k_ => (P1_ k_ ∨ w.heap.size ≤ k_) ∧ some k_ ≠ (u14 : Value).ownBlock ∧ k_ ≠ gb188 ∧ k_ ≠ gb193) (.slice (some ad189) x7_1.length co54) x7_1) := ⟨by (with_reducible repeat (first | apply Kd.N_alloc | apply Kd.N_drewN | apply Kd.N_drew)); exact Kd.N_mono (Kd.N_far (p := ⟨gb193, 1, none⟩) (Kd.N_far (p := ⟨gb193, 0, none⟩) (Kd.N_mono HO_7.out (fun k_ hk => (⟨hk, hk.2⟩ : _ ∧ k_ ≠ gb193))) (fun _ hk => hk.2) (.slice A192_0 ((rd_T32 (rd_L3 x7_1 x73_2) x90_3).f0).length c192_0)) (fun _ hk => hk.2) (.int .i64 ((rd_T32 (rd_L3 x7_1 x73_2) x90_3).f1))) (fun _ hk => ⟨hk.1.1.1, ⟨hk.1.1.2.1, ⟨hk.1.1.2.2, hk.1.2⟩⟩⟩)⟩
                     have nq191_ : Aside0 (Kd.V k32 32 ((w61.setCell ⟨gb193, 0, none⟩ (.slice A192_0 ((rd_T32 (rd_L3 x7_1 x73_2) x90_3).f0).length c192_0)).setCell ⟨gb193, 1, none⟩ (.int .i64 ((rd_T32 (rd_L3 x7_1 x73_2) x90_3).f1))) w.heap.size (fun k_ => (P1_ k_ ∨ w.heap.size ≤ k_) ∧ some k_ ≠ (u14 : Value).ownBlock ∧ k_ ≠ gb188 ∧ k_ ≠ gb193) (.slice (some ad192) (rd_L3 x7_1 x73_2).length c191_0) (rd_L3 x7_1 x73_2)) := ⟨by (with_reducible repeat (first | apply Kd.V_alloc | apply Kd.V_drewN | apply Kd.V_drew)); exact Kd.V_mono (Kd.V_far (p := ⟨gb193, 1, none⟩) (Kd.V_far (p := ⟨gb193, 0, none⟩) (Kd.V_mono HQ191.out (fun k_ hk => (⟨hk, hk.2⟩ : _ ∧ k_ ≠ gb193))) (fun _ hk => hk.2) (.slice A192_0 ((rd_T32 (rd_L3 x7_1 x73_2) x90_3).f0).length c192_0)) (fun _ hk => hk.2) (.int .i64 ((rd_T32 (rd_L3 x7_1 x73_2) x90_3).f1))) (fun _ hk => ⟨hk.1.1.1, ⟨hk.1.1.2.1, ⟨hk.1.1.2.2, hk.1.2⟩⟩⟩)⟩
                     have ne192_ : Aside0 (Kd.V (Kd.int .i64) 3 ((w61.setCell ⟨gb193, 0, none⟩ (.slice A192_0 ((rd_T32 (rd_L3 x7_1 x73_2) x90_3).f0).length c192_0)).setCell ⟨gb193, 1, none⟩ (.int .i64 ((rd_T32 (rd_L3 x7_1 x73_2) x90_3).f1))) w.heap.size (fun k_ => (P1_ k_ ∨ w.heap.size ≤ k_) ∧ some k_ ≠ (u14 : Value).ownBlock ∧ k_ ≠ gb188 ∧ k_ ≠ gb193) (.slice A192_0 ((rd_T32 (rd_L3 x7_1 x73_2) x90_3).f0).length c192_0) ((rd_T32 (rd_L3 x7_1 x73_2) x90_3).f0)) := ⟨by (with_reducible repeat (first | apply Kd.V_alloc | apply Kd.V_drewN | apply Kd.V_drew)); exact Kd.V_mono (Kd.V_far (p := ⟨gb193, 1, none⟩) (Kd.V_far (p := ⟨gb193, 0, none⟩) (Kd.V_mono HE192.out (fun k_ hk => (⟨hk, hk.2⟩ : _ ∧ k_ ≠ gb193))) (fun _ hk => hk.2) (.slice A192_0 ((rd_T32 (rd_L3 x7_1 x73_2) x90_3).f0).length c192_0)) (fun _ hk => hk.2) (.int .i64 ((rd_T32 (rd_L3 x7_1 x73_2) x90_3).f1))) (fun _ hk => ⟨hk.1.1.1, ⟨hk.1.1.2.1, ⟨hk.1.1.2.2, hk.1.2⟩⟩⟩)⟩
                     have n1_ : Aside0 (Kd.N k32 32 ((w61.setCell ⟨gb193, 0, none⟩ (.slice A192_0 ((rd_T32 (rd_L3 x7_1 x73_2) x90_3).f0).length c192_0)).setCell ⟨gb193, 1, none⟩ (.int .i64 ((rd_T32 (rd_L3 x7_1 x73_2) x90_3).f1))) w.heap.size (fun k_ => (w.heap.size ≤ k_) ∧ some k_ ≠ (.slice (some ad189) x7_1.length co54 : Value).ownBlock ∧ k_ ≠ gb188 ∧ k_ ≠ gb193) u14 x14_3) := ⟨by (with_reducible repeat (first | apply Kd.N_alloc | apply Kd.N_drewN | apply Kd.N_drew)); exact Kd.N_mono (Kd.N_far (p := ⟨gb193, 1, none⟩) (Kd.N_far (p := ⟨gb193, 0, none⟩) (Kd.N_mono HO_14.out (fun k_ hk => (⟨hk, hk.2⟩ : _ ∧ k_ ≠ gb193))) (fun _ hk => hk.2) (.slice A192_0 ((rd_T32 (rd_L3 x7_1 x73_2) x90_3).f0).length c192_0)) (fun _ hk => hk.2) (.int .i64 ((rd_T32 (rd_L3 x7_1 x73_2) x90_3).f1))) (fun _ hk => ⟨hk.1.1.1, ⟨hk.1.1.2.1, ⟨hk.1.1.2.2, hk.1.2⟩⟩⟩)⟩
                     have n2_ : Aside0 (((w61.setCell ⟨gb193, 0, none⟩ (.slice A192_0 ((rd_T32 (rd_L3 x7_1 x73_2) x90_3).f0).length c192_0)).setCell ⟨gb193, 1, none⟩ (.int .i64 ((rd_T32 (rd_L3 x7_1 x73_2) x90_3).f1))).heap[gb188]? = some (.cells #[.slice A187_0 ((rd_T32 l0 x73_2).f0).length c187_0, .int .i64 ((rd_T32 l0 x73_2).f1)] 32 (0, 0))) := ⟨by (with_reducible repeat (first | refine blk_drewN ?_ _ | refine blk_drew ?_ | refine blk_alloc ?_ _)); refine blk_far ?_ NB188_193.out _; (with_reducible repeat (first | refine blk_drewN ?_ _ | refine blk_drew ?_ | refine blk_alloc ?_ _)); refine blk_far ?_ NB188_193.out _; (with_reducible repeat (first | refine blk_drewN ?_ _ | refine blk_drew ?_ | refine blk_alloc ?_ _)); exact BK188.out⟩
                     have n3_ : Aside0 (((w61.setCell ⟨gb193, 0, none⟩ (.slice A192_0 ((rd_T32 (rd_L3 x7_1 x73_2) x90_3).f0).length c192_0)).setCell ⟨gb193, 1, none⟩ (.int .i64 ((rd_T32 (rd_L3 x7_1 x73_2) x90_3).f1))).heap[gb193]? = some (.cells #[.slice A192_0 ((rd_T32 (rd_L3 x7_1 x73_2) x90_3).f0).length c192_0, .int .i64 ((rd_T32 (rd_L3 x7_1 x73_2) x90_3).f1)] 32 (0, 0))) := ⟨by (with_reducible repeat (first | refine blk_drewN ?_ _ | refine blk_drew ?_ | refine blk_alloc ?_ _)); refine blk_put (cs := #[.slice A192_0 ((rd_T32 (rd_L3 x7_1 x73_2) x90_3).f0).length c192_0, .int .i64 0]) ?_ 1 _ rfl; (with_reducible repeat (first | refine blk_drewN ?_ _ | refine blk_drew ?_ | refine blk_alloc ?_ _)); refine blk_put (cs := #[.slice none 0 0, .int .i64 0]) ?_ 0 _ rfl; (with_reducible repeat (first | refine blk_drewN ?_ _ | refine blk_drew ?_ | refine blk_alloc ?_ _)); exact BK193.out⟩
                     have n4_ : Aside0 (Below w.heap.size w ((w61.setCell ⟨gb193, 0, none⟩ (.slice A192_0 ((rd_T32 (rd_L3 x7_1 x73_2) x90_3).f0).length c192_0)).setCell ⟨gb193, 1, none⟩ (.int .i64 ((rd_T32 (rd_L3 x7_1 x73_2) x90_3).f1)))) := ⟨by repeat (with_reducible first | exact HB.out | refine below_set ?_ GE193.out)⟩
                     (try clear HO_7)
                     (try clear HQ191)
                     (try clear HE192)
                     (try clear HO_14)
                     (try clear BK188)
                     (try clear BK193)
                     (try clear HB)
                     generalize ((w61.setCell ⟨gb193, 0, none⟩ (.slice A192_0 ((rd_T32 (rd_L3 x7_1 x73_2) x90_3).f0).length c192_0)).setCell ⟨gb193, 1, none⟩ (.int .i64 ((rd_T32 (rd_L3 x7_1 x73_2) x90_3).f1))) = w64 at ne192_ nq191_ n0_ n1_ n2_ n3_ n4_ ⊢
                     have HO_7 := n0_
                     have HQ191 := nq191_
                     have HE192 := ne192_
                     have HO_14 := n1_
                     have BK188 := n2_
                     have BK193 := n3_
                     have HB := n4_
                     clear ne192_ nq191_ n0_ n1_ n2_ n3_ n4_
                     have n0_ := Aside0.mk (Kd.N_drew HO_7.out)
                     have nq191_ := Aside0.mk (Kd.V_drew HQ191.out)
                     have ne192_ := Aside0.mk (Kd.V_drew HE192.out)
                     have n1_ := Aside0.mk (Kd.N_drew HO_14.out)
                     have n2_ := Aside0.mk (blk_drew BK188.out)
                     have n3_ := Aside0.mk (blk_drew BK193.out)
                     have n4_ := Aside0.mk (below_drew1 HB.out)
                     clear HO_7
                     clear HQ191
                     clear HE192
                     clear HO_14
                     clear BK188
                     clear BK193
                     clear HB
                     have HO_7 := n0_
                     have HQ191 := nq191_
                     have HE192 := ne192_
                     have HO_14 := n1_
                     have BK188 := n2_
                     have BK193 := n3_
                     have HB := n4_
                     clear ne192_ nq191_ n0_ n1_ n2_ n3_ n4_
                     refine start_ (n := 15) (S := fun w' => w'.cell? ⟨gb193, 0, none⟩ = some (.slice A192_0 ((rd_T32 (rd_L3 x7_1 x73_2) x90_3).f0).length c192_0) ∧ w'.cell? ⟨gb193, 1, none⟩ = some (.int .i64 ((rd_T32 (rd_L3 x7_1 x73_2) x90_3).f1)) ∧ w'.cell? ⟨gb188, 0, none⟩ = some (.slice A187_0 ((rd_T32 l0 x73_2).f0).length c187_0) ∧ w'.cell? ⟨gb188, 1, none⟩ = some (.int .i64 ((rd_T32 l0 x73_2).f1))) (ds := []) #[false, false, false, false, false, false, false, false, false, false, false, false, false, false, false] (by kernel_rfl) rfl rfl ⟨(blk_cell BK193.out 0).trans rfl, (blk_cell BK193.out 1).trans rfl, (blk_cell BK188.out 0).trans rfl, (blk_cell BK188.out 1).trans rfl⟩ (fun hHeld => ?_); refine with_tabW dist_Bind.tab30 dist_Bind.bits30 (fun HT_ HW_ => ?_)
                     generalize w64.drew = w65 at HO_7 HE192 HQ191 HO_14 BK188 BK193 HB hHeld ⊢
                     refine pure_ (i := 0) (N := some 94) #[true, false, false, false, false, false, false, false, false, false, false, false, false, false, false] rfl rfl (any_of HT_.out (by kernel_rfl)) (fun _ _ _ h => h) (Or.inl ⟨rfl, by intro w'; go_simp; with_reducible rfl⟩) (by simp only [Act.put, List.setIfInBounds_toArray, List.set_cons_zero, List.set_cons_succ, i64_w, i32_w]; rfl) ?_
                     refine pure_ (i := 1) (N := some 95) #[true, true, false, false, false, false, false, false, false, false, false, false, false, false, false] rfl rfl (any_of HT_.out (by kernel_rfl)) (fun _ _ _ h => h) (Or.inl ⟨rfl, by intro w'; go_simp; with_reducible rfl⟩) (by simp only [Act.put, List.setIfInBounds_toArray, List.set_cons_zero, List.set_cons_succ, i64_w, i32_w]; rfl) ?_
                     refine pure_ (i := 4) (N := some 98) #[true, true, false, false, true, false, false, false, false, false, false, false, false, false, false] rfl rfl (any_of HT_.out (by kernel_rfl)) (fun _ _ _ h => h) (Or.inl ⟨rfl, by intro w'; go_simp; with_reducible rfl⟩) (by simp only [Act.put, List.setIfInBounds_toArray, List.set_cons_zero, List.set_cons_succ, i64_w, i32_w]; rfl) ?_
                     refine pure_ (i := 6) (N := some 100) #[true, true, false, false, true, false, true, false, false, false, false, false, false, false, false] rfl rfl (any_of HT_.out (by kernel_rfl)) (fun _ _ _ h => h) (Or.inl ⟨rfl, by intro w'; go_simp; with_reducible rfl⟩) (by simp only [Act.put, List.setIfInBounds_toArray, List.set_cons_zero, List.set_cons_succ, i64_w, i32_w]; rfl) ?_
                     refine pure_ (i := 8) (N := some 102) #[true, true, false, false, true, false, true, false, true, false, false, false, false, false, false] rfl rfl (any_of HT_.out (by kernel_rfl)) (fun _ _ _ h => h) (Or.inl ⟨rfl, by intro w'; go_simp; with_reducible rfl⟩) (by simp only [Act.put, List.setIfInBounds_toArray, List.set_cons_zero, List.set_cons_succ, i64_w, i32_w]; rfl) ?_
                     refine take_ (i := 2) (N := some 96) #[true, true, true, false, true, false, true, false, true, false, false, false, false, false, false] rfl rfl (take_ofW HT_.out HW_.out (by kernel_rfl)) (fun _ _ _ h => h) (Or.inl ⟨rfl, by rintro w' ⟨s0, s1, s2, s3⟩; go_simp; with_reducible rfl⟩) hHeld (by simp only [Act.put, List.setIfInBounds_toArray, List.set_cons_zero, List.set_cons_succ, i64_w, i32_w]; rfl) ?_
                     refine take_ (i := 5) (N := some 99) #[true, true, true, false, true, true, true, false, true, false, false, false, false, false, false] rfl rfl (take_ofW HT_.out HW_.out (by kernel_rfl)) (fun _ _ _ h => h) (Or.inl ⟨rfl, by rintro w' ⟨s0, s1, s2, s3⟩; go_simp; with_reducible rfl⟩) hHeld (by simp only [Act.put, List.setIfInBounds_toArray, List.set_cons_zero, List.set_cons_succ, i64_w, i32_w]; rfl) ?_
                     refine pure_ (i := 7) (N := some 101) #[true, true, true, false, true, true, true, true, true, false, false, false, false, false, false] rfl rfl (any_of HT_.out (by kernel_rfl)) (fun _ _ _ h => h) (Or.inl ⟨rfl, by intro w'; go_simp; with_reducible rfl⟩) (by simp only [Act.put, List.setIfInBounds_toArray, List.set_cons_zero, List.set_cons_succ, i64_w, i32_w]; rfl) ?_
                     refine take_ (i := 9) (N := some 103) #[true, true, true, false, true, true, true, true, true, true, false, false, false, false, false] rfl rfl (take_ofW HT_.out HW_.out (by kernel_rfl)) (fun _ _ _ h => h) (Or.inl ⟨rfl, by rintro w' ⟨s0, s1, s2, s3⟩; go_simp; with_reducible rfl⟩) hHeld (by simp only [Act.put, List.setIfInBounds_toArray, List.set_cons_zero, List.set_cons_succ, i64_w, i32_w]; rfl) ?_
                     refine pure_ (i := 10) (N := some 104) #[true, true, true, false, true, true, true, true, true, true, true, false, false, false, false] rfl rfl (any_of HT_.out (by kernel_rfl)) (fun _ _ _ h => h) (Or.inl ⟨rfl, by intro w'; go_simp; with_reducible rfl⟩) (by simp only [Act.put, List.setIfInBounds_toArray, List.set_cons_zero, List.set_cons_succ, i64_w, i32_w]; rfl) ?_
                     refine one_ (i := 3) (N := some 97) #[true, true, true, true, true, true, true, true, true, true, true, false, false, false, false] rfl rfl (one_of HT_.out (by kernel_rfl)) (by decide) (fun K hK => ?_)
                     refine goes_ Try.func40 (by kernel_rfl) rfl #[.slice A192_0 ((rd_T32 (rd_L3 x7_1 x73_2) x90_3).f0).length c192_0] rfl rfl rfl (by (try simp only [List.map_toArray, List.map_cons, List.map_nil]); rfl) ?_
                     with_reducible refine (slices_Clone_int_int.calls _ _ ((rd_T32 (rd_L3 x7_1 x73_2) x90_3).f0) t194 _ ?side1 ?side2 A59.out).mono ?_
                     (case side1 => repeat (exact (Kd.V_reads' HE192.out).2.2))
                     (case side2 => exact HC192_0.out)
                     rintro e w66 ⟨v195, rfl, ho0, hb⟩
                     refine ⟨_, rfl, ?_⟩
                     have n0_ := Aside0.mk (Kd.N_elder' (by (with_reducible repeat (first | apply Kd.N_alloc | apply Kd.N_drewN | apply Kd.N_drew)); exact HO_7.out) (Kd.R_base ho0) hb)
                     have nq191_ := Aside0.mk (Kd.V_elder' (by (with_reducible repeat (first | apply Kd.V_alloc | apply Kd.V_drewN | apply Kd.V_drew)); exact HQ191.out) (Kd.R_base ho0) hb)
                     have n1_ := Aside0.mk (Kd.N_elder' (by (with_reducible repeat (first | apply Kd.N_alloc | apply Kd.N_drewN | apply Kd.N_drew)); exact HO_14.out) (Kd.R_base ho0) hb)
                     have n2_ := Aside0.mk (Kd.R_lower (Kd.R_newM (M := fun k_ => (w.heap.size ≤ k_)) ho0 (below_size HB.out) (fun k_ h_ => h_)) (below_size HB.out))
                     have n3_ := Aside0.mk (blk_below (g := gb188) (o := .cells #[.slice A187_0 ((rd_T32 l0 x73_2).f0).length c187_0, .int .i64 ((rd_T32 l0 x73_2).f1)] 32 (0, 0)) (by (with_reducible repeat (first | refine blk_drewN ?_ _ | refine blk_drew ?_ | refine blk_alloc ?_ _)); exact BK188.out) hb)
                     have n4_ := Aside0.mk (blk_below (g := gb193) (o := .cells #[.slice A192_0 ((rd_T32 (rd_L3 x7_1 x73_2) x90_3).f0).length c192_0, .int .i64 ((rd_T32 (rd_L3 x7_1 x73_2) x90_3).f1)] 32 (0, 0)) (by (with_reducible repeat (first | refine blk_drewN ?_ _ | refine blk_drew ?_ | refine blk_alloc ?_ _)); exact BK193.out) hb)
                     have n5_ := Aside0.mk (below_step HB.out hb)
                     clear HO_7
                     clear HQ191
                     clear HO_14
                     clear BK188
                     clear BK193
                     clear HB
                     have HO_7 := n0_
                     have HQ191 := nq191_
                     have HO_14 := n1_
                     have HO196 := n2_
                     have BK188 := n3_
                     have BK193 := n4_
                     have HB := n5_
                     clear nq191_ n0_ n1_ n2_ n3_ n4_ n5_
                     (try clear hb)
                     (try clear ho0)
                     obtain ⟨Ao67, co67, eo67⟩ := Kd.R_slice HO196.out
                     (subst eo67)
                     refine hK.out _ _ ⟨(blk_cell BK193.out 0).trans rfl, (blk_cell BK193.out 1).trans rfl, (blk_cell BK188.out 0).trans rfl, (blk_cell BK188.out 1).trans rfl⟩ (fun hHeld => ?_)
                     clear hK K
                     refine norm_ (a' := ?_) ?_ ?_
                     rotate_left
                     ·
                      show Act.put _ (some 97) _ = _
                      simp only [Act.put, List.setIfInBounds_toArray, List.set_cons_zero, List.set_cons_succ, i64_w, i32_w]
                      rfl
                     refine pure_ (i := 11) (N := some 105) #[true, true, true, true, true, true, true, true, true, true, true, true, false, false, false] rfl rfl (any_of HT_.out (by kernel_rfl)) (fun _ _ _ h => h) (Or.inl ⟨rfl, by intro w'; go_simp; with_reducible rfl⟩) (by simp only [Act.put, List.setIfInBounds_toArray, List.set_cons_zero, List.set_cons_succ, i64_w, i32_w]; rfl) ?_
                     refine one_ (i := 12) (N := some 106) #[true, true, true, true, true, true, true, true, true, true, true, true, true, false, false] rfl rfl (one_of HT_.out (by kernel_rfl)) (by decide) (fun K hK => ?_)
                     refine value_ (w1 := ?_) (v := ?_) rfl rfl ?_ ?_
                     rotate_left 2
                     ·
                      go_simp
                      constructor
                      ·
                       rfl
                      ·
                       rfl
                     refine hK.out _ _ ⟨(blk_cell (blk_alloc BK193.out _) 0).trans rfl, (blk_cell (blk_alloc BK193.out _) 1).trans rfl, (blk_cell (blk_alloc BK188.out _) 0).trans rfl, (blk_cell (blk_alloc BK188.out _) 1).trans rfl⟩ (fun hHeld => ?_)
                     clear hK K
                     refine norm_ (a' := ?_) ?_ ?_
                     rotate_left
                     ·
                      show Act.put _ (some 106) _ = _
                      simp only [Act.put, List.setIfInBounds_toArray, List.set_cons_zero, List.set_cons_succ, i64_w, i32_w]
                      rfl
                     refine one_ (i := 13) (N := some 107) #[true, true, true, true, true, true, true, true, true, true, true, true, true, true, false] rfl rfl (one_of HT_.out (by kernel_rfl)) (by decide) (fun K hK => ?_)
                     refine Kd.N_append_step k32 (w0 := w) w.heap.size rfl (.tmp 94) (.tmp 106) 22 32 (.agg #[(.slice none 0 0), (.int .i64 0)]) 32 rfl Try.underlying22 info32 rfl (by decide) (by omega) u14 x14_3 (⟨t194, wrap64 ((wrap64 (((rd_T32 l0 x73_2).f1) * (wrap64 (Int.tdiv x8_1 t190)))) * ((rd_T32 (rd_L3 x7_1 x73_2) x90_3).f1))⟩ : S32) [.slice Ao67 t194.length co67, .int .i64 (wrap64 ((wrap64 (((rd_T32 l0 x73_2).f1) * (wrap64 (Int.tdiv x8_1 t190)))) * ((rd_T32 (rd_L3 x7_1 x73_2) x90_3).f1)))] (fun k_ => (w.heap.size ≤ k_) ∧ some k_ ≠ (.slice (some ad189) x7_1.length co54 : Value).ownBlock ∧ k_ ≠ gb188 ∧ k_ ≠ gb193) (fun k_ => ((fun k_ => (w.heap.size ≤ k_) ∧ some k_ ≠ (.slice (some ad189) x7_1.length co54 : Value).ownBlock ∧ k_ ≠ gb188 ∧ k_ ≠ gb193)) k_ ∧ some k_ ≠ (u14 : Value).ownBlock) rfl rfl ?aP (fun _ hk => hk) ?aF ?aO ?aB ?aS ?aL ?_
                     (case aP => exact (k32_mkF _ _ (⟨t194, wrap64 ((wrap64 (((rd_T32 l0 x73_2).f1) * (wrap64 (Int.tdiv x8_1 t190)))) * ((rd_T32 (rd_L3 x7_1 x73_2) x90_3).f1))⟩ : S32) (Kd.R_reads' (Kd.R_mono (ok' := (fun k_ => ((fun k_ => (w.heap.size ≤ k_) ∧ some k_ ≠ (.slice (some ad189) x7_1.length co54 : Value).ownBlock ∧ k_ ≠ gb188 ∧ k_ ≠ gb193)) k_ ∧ some k_ ≠ (u14 : Value).ownBlock)) (Kd.R_types (Kd.R_types (Kd.R_apart' (Kd.R_apart' (HO196.out) (Kd.N_typed HO_7.out) (by decide)) (Kd.N_typed HO_14.out) (by decide)) BK188.out (by decide)) BK193.out (by decide)) (fun k_ hk => ⟨⟨(hk.1.1.1.1.1), ⟨hk.1.1.1.2, ⟨hk.1.2, hk.2⟩⟩⟩, hk.1.1.2⟩))).2.1 (Kd.R_F (Kd.R_mono (ok' := (fun k_ => ((fun k_ => (w.heap.size ≤ k_) ∧ some k_ ≠ (.slice (some ad189) x7_1.length co54 : Value).ownBlock ∧ k_ ≠ gb188 ∧ k_ ≠ gb193)) k_ ∧ some k_ ≠ (u14 : Value).ownBlock)) (Kd.R_types (Kd.R_types (Kd.R_apart' (Kd.R_apart' (HO196.out) (Kd.N_typed HO_7.out) (by decide)) (Kd.N_typed HO_14.out) (by decide)) BK188.out (by decide)) BK193.out (by decide)) (fun k_ hk => ⟨⟨(hk.1.1.1.1.1), ⟨hk.1.1.1.2, ⟨hk.1.2, hk.2⟩⟩⟩, hk.1.1.2⟩)))))
                     (case aB => exact HB.out)
                     (case aF => exact (fun k_ hk => ⟨((Nat.le_trans (below_size HB.out) hk)), Kd.fresh' (Kd.N_lt (by (with_reducible repeat (first | apply Kd.N_alloc | apply Kd.N_drewN | apply Kd.N_drew)); exact HO_7.out)) k_ hk, Kd.freshB (g := gb188) (o := .cells #[.slice A187_0 ((rd_T32 l0 x73_2).f0).length c187_0, .int .i64 ((rd_T32 l0 x73_2).f1)] 32 (0, 0)) (by (with_reducible repeat (first | refine blk_drewN ?_ _ | refine blk_drew ?_ | refine blk_alloc ?_ _)); exact BK188.out) k_ hk, Kd.freshB (g := gb193) (o := .cells #[.slice A192_0 ((rd_T32 (rd_L3 x7_1 x73_2) x90_3).f0).length c192_0, .int .i64 ((rd_T32 (rd_L3 x7_1 x73_2) x90_3).f1)] 32 (0, 0)) (by (with_reducible repeat (first | refine blk_drewN ?_ _ | refine blk_drew ?_ | refine blk_alloc ?_ _)); exact BK193.out) k_ hk⟩))
                     (case aO => exact (by (with_reducible repeat (first | apply Kd.N_alloc | apply Kd.N_drewN | apply Kd.N_drew)); exact Kd.N_mono HO_14.out (fun _ hk => ⟨hk.1.1, ⟨hk.1.2.1, ⟨hk.1.2.2.1, hk.1.2.2.2⟩⟩⟩)))
                     (case aS => exact (below_size HB.out))
                     (case aL => have := LMc60.out; omega)
                     intro v198 w68 ho hb hg hat
                     rw [← Ny197.out] at ho
                     have n0_ := Aside0.mk (Kd.N_afterv (ok := (fun k_ => (P1_ k_ ∨ w.heap.size ≤ k_) ∧ some k_ ≠ (.slice Ao67 t194.length co67 : Value).ownBlock ∧ k_ ≠ gb188 ∧ k_ ≠ gb193)) (by (with_reducible repeat (first | apply Kd.N_alloc | apply Kd.N_drewN | apply Kd.N_drew)); exact Kd.N_mono HO_7.out (fun _ hk => ⟨⟨hk.1.1, ⟨hk.2, ⟨hk.1.2.2.1, hk.1.2.2.2⟩⟩⟩, hk.1.2.1⟩)) hg hat)
                     have nq191_ := Aside0.mk (Kd.V_afterv (ok := (fun k_ => (P1_ k_ ∨ w.heap.size ≤ k_) ∧ some k_ ≠ (.slice Ao67 t194.length co67 : Value).ownBlock ∧ k_ ≠ gb188 ∧ k_ ≠ gb193)) (by (with_reducible repeat (first | apply Kd.V_alloc | apply Kd.V_drewN | apply Kd.V_drew)); exact Kd.V_mono HQ191.out (fun _ hk => ⟨⟨hk.1.1, ⟨hk.2, ⟨hk.1.2.2.1, hk.1.2.2.2⟩⟩⟩, hk.1.2.1⟩)) hg hat)
                     have n1_ := Aside0.mk (blk_grown (g := gb188) (o := .cells #[.slice A187_0 ((rd_T32 l0 x73_2).f0).length c187_0, .int .i64 ((rd_T32 l0 x73_2).f1)] 32 (0, 0)) (by (with_reducible repeat (first | refine blk_drewN ?_ _ | refine blk_drew ?_ | refine blk_alloc ?_ _)); exact BK188.out) hg (Kd.N_away HO_14.out (fun _ hk => hk.1.2.2.1)))
                     have n2_ := Aside0.mk (blk_grown (g := gb193) (o := .cells #[.slice A192_0 ((rd_T32 (rd_L3 x7_1 x73_2) x90_3).f0).length c192_0, .int .i64 ((rd_T32 (rd_L3 x7_1 x73_2) x90_3).f1)] 32 (0, 0)) (by (with_reducible repeat (first | refine blk_drewN ?_ _ | refine blk_drew ?_ | refine blk_alloc ?_ _)); exact BK193.out) hg (Kd.N_away HO_14.out (fun _ hk => hk.1.2.2.2)))
                     have n3_ := Aside0.mk (hb)
                     have n4_ := Aside0.mk (ho)
                     clear HO_7
                     clear HQ191
                     clear BK188
                     clear BK193
                     clear HB
                     clear HO_14
                     clear HO196
                     have HO_7 := n0_
                     have HQ191 := nq191_
                     have BK188 := n1_
                     have BK193 := n2_
                     have HB := n3_
                     have HO199 := n4_
                     clear nq191_ n0_ n1_ n2_ n3_ n4_
                     clear ho hb hg hat
                     refine hK.out _ _ ⟨(blk_cell BK193.out 0).trans rfl, (blk_cell BK193.out 1).trans rfl, (blk_cell BK188.out 0).trans rfl, (blk_cell BK188.out 1).trans rfl⟩ (fun hHeld => ?_)
                     clear hK K
                     refine norm_ (a' := ?_) ?_ ?_
                     rotate_left
                     ·
                      show Act.put _ (some 107) _ = _
                      simp only [Act.put, List.setIfInBounds_toArray, List.set_cons_zero, List.set_cons_succ, i64_w, i32_w]
                      rfl
                     refine pure_ (i := 14) (N := some 14) #[true, true, true, true, true, true, true, true, true, true, true, true, true, true, true] rfl rfl (any_of HT_.out (by kernel_rfl)) (fun _ _ _ h => h) (Or.inl ⟨rfl, by intro w'; go_simp; with_reducible rfl⟩) (by simp only [Act.put, List.setIfInBounds_toArray, List.set_cons_zero, List.set_cons_succ, i64_w, i32_w]; rfl) ?_
                     refine done_ (done_of HT_.out (by kernel_rfl)) ?_
                     try go_wp2
                     go_roundg k3
                     case measure => have := HK1.out; have := HK2.out; have := HK3.out; omega
                     case rel => exact ⟨(y197), (wrap64 (x90_3 + 1)), rfl, H', ⟨by have := HK1.out; have := HK2.out; have := HK3.out; omega⟩, ⟨by (with_reducible repeat (first | apply Kd.N_alloc | apply Kd.N_drewN | apply Kd.N_drew)); exact Kd.N_mono HO_7.out (fun _ hk => ⟨hk.1.1, ⟨hk.2, hk.1.2.2.1⟩⟩)⟩, ⟨by (with_reducible repeat (first | apply Kd.V_alloc | apply Kd.V_drewN | apply Kd.V_drew)); exact Kd.V_mono HQ191.out (fun _ hk => ⟨hk.1.1, ⟨hk.2, hk.1.2.2.1⟩⟩)⟩, ⟨by (with_reducible repeat (first | apply Kd.N_alloc | apply Kd.N_drewN | apply Kd.N_drew)); exact Kd.N_mono HO199.out (fun _ hk => ⟨hk.1, ⟨hk.2.1, hk.2.2.1⟩⟩)⟩, ⟨by (with_reducible repeat (first | refine blk_drewN ?_ _ | refine blk_drew ?_ | refine blk_alloc ?_ _)); exact BK188.out⟩, ⟨HB.out⟩⟩
                    ·
                     rw [if_neg c60] at H
                     exact absurd H (by simp)
                   ·
                    rw [if_neg c58] at H
                    exact absurd H (by simp)
                  ·
                   rw [if_neg c57] at H
                   exact absurd H (by simp)
                 ·
                  rw [if_neg c56] at H
                  have c56b0 : decide (x90_3 < ((rd_L3 x7_1 x73_2).length : Int)) = false := decide_eq_false c56
                  clear c56
                  have H' := Aside0.mk H
                  clear H
                  go_wp2
                  go_roundg k3
                  case measure => have := HK1.out; have := HK2.out; have := HK3.out; omega
                  case rel => exact ⟨(x14_3), (wrap64 (x73_2 + 1)), rfl, H', ⟨by have := HK1.out; have := HK2.out; have := HK3.out; omega⟩, ⟨by (with_reducible repeat (first | apply Kd.N_alloc | apply Kd.N_drewN | apply Kd.N_drew)); exact Kd.N_mono HO_7.out (fun _ hk => ⟨hk.1, hk.2.1⟩)⟩, ⟨by (with_reducible repeat (first | apply Kd.N_alloc | apply Kd.N_drewN | apply Kd.N_drew)); exact Kd.N_mono HO_14.out (fun _ hk => ⟨hk.1, hk.2.1⟩)⟩, ⟨HB.out⟩⟩
             ·
              rw [if_neg c48] at H
              exact absurd H (by simp)
            ·
             rw [if_neg c47] at H
             exact absurd H (by simp)
           ·
            rw [if_neg c46] at H
            exact absurd H (by simp)
          ·
           rw [if_neg c45] at H
           have c45b0 : decide (x73_2 < (l0.length : Int)) = false := decide_eq_false c45
           clear c45
           obtain ⟨⟨t183, t186⟩, A69, H⟩ := bnd_ H
           dsimp only at H
           simp only [Option.some.injEq, Prod.mk.injEq] at H
           obtain ⟨rfl, rfl⟩ := H
           obtain ⟨Ao70, co70, eo70⟩ := Kd.N_slice HO_14.out
           subst eo70
           go_wp2_with (((with_reducible refine gate_callee (f := 41) rfl ?_); refine goesL_ (some 111) rfl rfl Try.func41 (by kernel_rfl) rfl #[.slice Ao70 x14_2.length co70] rfl (by (try simp only [List.map_toArray, List.map_cons, List.map_nil]); rfl) ?_; (with_reducible refine (dist_tidy.calls k2 (fun k_ => (w.heap.size ≤ k_) ∧ some k_ ≠ (v167 : Value).ownBlock) (.slice Ao70 x14_2.length co70) x14_2 t183 t186 w _ ?side1 ?side2 A69.out).mono ?_); (case side1 => repeat ((with_reducible exact HB.out))); (case side2 => exact HO_14.out); rintro e w71 ⟨v184, rfl, ho0, hb, hkp⟩; refine ⟨_, rfl, ?_⟩; replace HO_7 := Aside0.mk (Kd.N_mono (ok' := fun k_ => (P1_ k_ ∨ w.heap.size ≤ k_) ∧ some k_ ≠ (v184 : Value).ownBlock) (Kd.N_keptB (HO_7.out) hkp (fun k_ hk_ hs_ => (hk_.2) hs_)) (fun k_ hk_ => ⟨hk_.1.1, fun e_ => Nat.not_le.2 hk_.2.2 (Kd.N_base ho0 k_ e_.symm)⟩)); have HO185 := Aside0.mk (Kd.N_lower (Kd.N_mono (ok' := fun k_ => (w.heap.size ≤ k_)) ho0 (fun k_ hk_ => Or.elim hk_ (fun hs_ => (hs_.1)) (fun hn_ => (Nat.le_trans (below_size HB.out) hn_)))) (below_size HB.out)); replace HB := Aside0.mk (hb); clear HO_14; (try clear hb); (try clear hkp); (try clear ho0)))
           go_ret2
           exact ⟨_, rfl, by (with_reducible repeat (first | apply Kd.N_alloc | apply Kd.N_drewN | apply Kd.N_drew)); exact HO185.out, HB.out⟩
   ·
    rw [if_neg c6] at H
    exact absurd H (by simp)
  ·
   rw [if_neg c5] at H
   exact absurd H (by simp)
 ·
  rw [if_neg c4] at H
  have c4b0 : (t165 == 0) = false := beq_eq_false_iff_ne.mpr c4
  have c4b1 : (t165 != 0) = true := bne_iff_ne.mpr c4
  simp only [Option.some.injEq, Prod.mk.injEq] at H
  obtain ⟨rfl, rfl⟩ := H
  go_enter Try.func54, Try.ntmps54
  go_wp2_with (((with_reducible refine gate_callee (f := 13) rfl ?_); refine goesL_ (some 21) rfl rfl Try.func13 (by kernel_rfl) rfl #[.slice A0 l0.length c0] rfl (by (try simp only [List.map_toArray, List.map_cons, List.map_nil]); rfl) ?_; (with_reducible refine (dist_Wrong.calls k _ _ l0 t165 _ ?side1 ?side2 A3.out).mono ?_); (case side1 => repeat (exact HR0.out)); (case side2 => exact HC0.out); rintro e w72 ⟨rfl, hb⟩; refine ⟨_, rfl, ?_⟩; replace HO1 := Aside0.mk (Kd.V_below (by (with_reducible repeat (first | apply Kd.V_alloc | apply Kd.V_drewN | apply Kd.V_drew)); exact HO1.out) hb); replace HB := Aside0.mk (below_step HB.out hb); (try clear hb)))
  go_ret2
  exact ⟨_, rfl, by exact Kd.N_nil _ _ _ _ _, HB.out⟩

end Go.Proofs.Ytkemhfhmlcljjaa.PR

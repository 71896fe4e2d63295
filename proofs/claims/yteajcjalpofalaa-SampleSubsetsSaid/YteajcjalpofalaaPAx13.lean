
/- Functions of the program in Lean, by wip/xprint.py. Conditions: in each theorem. -/
import Derived.Test.YteajcjalpofalaaPAxs
import Derived.Test.YteajcjalpofalaaPAx0
import Derived.Test.YteajcjalpofalaaPAx8
import Derived.Test.YteajcjalpofalaaPAx11
import Derived.Test.YteajcjalpofalaaPAx12
namespace Go.Proofs.Yteajcjalpofalaa.PA
open Go.RowKit Go.Proofs.YteajcjalpofalaaW.PrintWords Go.Proofs.YteajcjalpofalaaW.PrintLast Go.Proofs.YteajcjalpofalaaW.PrintMore
attribute [local go_sem] max2_int min2_int max_two min_two max_three min_three max_four min_four   -- for this text's walks alone
set_option linter.unusedVariables false
set_option linter.unusedSimpArgs false

/-! ### hushref2_Tidy: function 51 -/
mutual
def hushref2_Tidy.l0 : Nat → List (S56) → List (S56) → List Int → Bool → Option ((List (S56)) × Int)
 | 0, _, _, _, _ => none
 | k + 1, x0, x4, x5, x6 => if x6 = true then ((hushref2_Weight.f k x0 x5).bind fun t178 => (if x4.length < 4398046511104 then ((hushref2_least.f k x0 x5 true).bind fun bt182 => (hushref2_Tidy.l0 k x0 (x4 ++ [(⟨x5, t178⟩ : S56)]) bt182.1 bt182.2)) else (none))) else (if (x4.length : Int) = 0 then (some (([] : List (S56)), 6)) else (if 0 < (x4.length : Int) then (hushref2_Tidy.l1 k x4 ((rd_T56 x4 0).f1) x4 (x4.length : Int) 0) else (none)))
def hushref2_Tidy.l1 : Nat → List (S56) → Int → List (S56) → Int → Int → Option ((List (S56)) × Int)
 | 0, _, _, _, _, _ => none
 | k + 1, x4, x7, x38, x39, x40 => if x40 < x39 then (if 0 ≤ x40 then (if x40 < (x38.length : Int) then ((hushref1_Divisor.f k ((rd_T56 x38 x40).f1) x7).bind fun t189 => (hushref2_Tidy.l1 k x4 t189 x38 x39 (wrap64 (x40 + 1)))) else (none)) else (none)) else ((hushref2_Total.f k x4).bind fun t190 => (if x7 = 0 then (none) else (if (wrap64 (Int.tdiv t190 x7)) > 1073741824 then (hushref2_Tidy.j2 k x4 x7 true) else (hushref2_Tidy.j2 k x4 x7 (decide ((x4.length : Int) > 4096))))))
def hushref2_Tidy.j2 : Nat → List (S56) → Int → Bool → Option ((List (S56)) × Int)
 | 0, _, _, _ => none
 | k + 1, x4, x7, x58 => if x58 = true then (some (([] : List (S56)), 4)) else (hushref2_Tidy.l2 k x4 x7 (x4.length : Int) 0)
def hushref2_Tidy.l2 : Nat → List (S56) → Int → Int → Int → Option ((List (S56)) × Int)
 | 0, _, _, _, _ => none
 | k + 1, x4, x7, x60, x61 => if x61 < x60 then (if 0 ≤ x61 then (if x61 < (x4.length : Int) then (if x7 = 0 then (none) else (hushref2_Tidy.l2 k (x4.set (x61 : Int).toNat (⟨(rd_T56 x4 x61).f0, wrap64 (Int.tdiv ((rd_T56 x4 x61).f1) x7)⟩ : S56)) x7 x60 (wrap64 (x61 + 1)))) else (none)) else (none)) else (some (x4, 0))
end
def hushref2_Tidy.f (k : Nat) (l0 : List (S56)) : Option ((List (S56)) × Int) := (hushref2_least.f k l0 ([] : List Int) false).bind fun bt174 => (hushref2_Tidy.l0 k l0 ([] : List (S56)) bt174.1 bt174.2)
theorem hushref2_Tidy.mono_l : ∀ k, (∀ y0 y1 y2 y3, LeO (hushref2_Tidy.l0 k y0 y1 y2 y3) (hushref2_Tidy.l0 (k + 1) y0 y1 y2 y3)) ∧ (∀ y0 y1 y2 y3 y4, LeO (hushref2_Tidy.l1 k y0 y1 y2 y3 y4) (hushref2_Tidy.l1 (k + 1) y0 y1 y2 y3 y4)) ∧ (∀ y0 y1 y2, LeO (hushref2_Tidy.j2 k y0 y1 y2) (hushref2_Tidy.j2 (k + 1) y0 y1 y2)) ∧ (∀ y0 y1 y2 y3, LeO (hushref2_Tidy.l2 k y0 y1 y2 y3) (hushref2_Tidy.l2 (k + 1) y0 y1 y2 y3))
 | 0 => ⟨fun _ _ _ _ r h => by simp [hushref2_Tidy.l0] at h, fun _ _ _ _ _ r h => by simp [hushref2_Tidy.l1] at h, fun _ _ _ r h => by simp [hushref2_Tidy.j2] at h, fun _ _ _ _ r h => by simp [hushref2_Tidy.l2] at h⟩
 | k + 1 => by
  obtain ⟨ih0, ih1, ih2, ih3⟩ := hushref2_Tidy.mono_l k
  refine ⟨?_, ?_, ?_, ?_⟩
  ·
   intro y0 y1 y2 y3
   unfold hushref2_Tidy.l0
   repeat' first
   | (with_reducible exact ih0 _ _ _ _)
   | (with_reducible exact ih1 _ _ _ _ _)
   | (with_reducible exact hushref2_Weight.mono _ _ _)
   | (with_reducible exact hushref2_least.mono _ _ _ _)
   | (with_reducible exact LeO.refl _)
   | (with_reducible refine LeO.ite ?_ ?_)
   | (with_reducible refine LeO.bind ?_ (fun _ => ?_))
  ·
   intro y0 y1 y2 y3 y4
   unfold hushref2_Tidy.l1
   repeat' first
   | (with_reducible exact ih1 _ _ _ _ _)
   | (with_reducible exact ih2 _ _ _)
   | (with_reducible exact hushref1_Divisor.mono _ _ _)
   | (with_reducible exact hushref2_Total.mono _ _)
   | (with_reducible exact LeO.refl _)
   | (with_reducible refine LeO.ite ?_ ?_)
   | (with_reducible refine LeO.bind ?_ (fun _ => ?_))
  ·
   intro y0 y1 y2
   unfold hushref2_Tidy.j2
   repeat' first
   | (with_reducible exact ih3 _ _ _ _)
   | (with_reducible exact LeO.refl _)
   | (with_reducible refine LeO.ite ?_ ?_)
  ·
   intro y0 y1 y2 y3
   unfold hushref2_Tidy.l2
   repeat' first
   | (with_reducible exact ih3 _ _ _ _)
   | (with_reducible exact LeO.refl _)
   | (with_reducible refine LeO.ite ?_ ?_)
theorem hushref2_Tidy.mono : ∀ a0 k, LeO (hushref2_Tidy.f k a0) (hushref2_Tidy.f (k + 1) a0) := by
 intro a0 k
 obtain ⟨ih0, ih1, ih2, ih3⟩ := hushref2_Tidy.mono_l k
 unfold hushref2_Tidy.f
 repeat' first
   | (with_reducible exact ih0 _ _ _ _)
   | (with_reducible exact hushref2_least.mono _ _ _ _)
   | (with_reducible refine LeO.bind ?_ (fun _ => ?_))
set_option maxHeartbeats 8000000 in
set_option maxRecDepth 100000 in
theorem hushref2_Tidy.calls (k : Nat) (P0_ : Nat → Prop) (A0 : Option Addr) (c0 : Nat) (l0 : List (S56)) (r1 : List (S56)) (r2 : Int) (w : World) (hs0 : Kd.V k56 56 w w.heap.size (fun k_ => P0_ k_) (.slice A0 l0.length c0) l0) (h : hushref2_Tidy.f k l0 = some (r1, r2)) :
  Calls Try.prog 51 #[.slice A0 l0.length c0] w fun e w' => ∃ v0_ : Value, e = .returned (.tuple #[v0_, .int .i64 r2]) ∧ Kd.N k56 56 w' w.heap.size (fun k_ => (P0_ k_ ∨ w.heap.size ≤ k_)) v0_ r1 ∧ Below w.heap.size w w' := by
 have hu56 := Try.underlying56
 have HO0 := Aside0.mk (show Kd.V k56 56 w w.heap.size (fun k_ => (P0_ k_ ∨ w.heap.size ≤ k_)) (.slice A0 l0.length c0) l0 from Kd.V_mono hs0 (fun k_ hk => .inl hk))
 have HB := Aside0.mk (Below.refl w.heap.size w)
 have H : ((hushref2_least.f k l0 ([] : List Int) false).bind fun bt174 => (hushref2_Tidy.l0 k l0 ([] : List (S56)) bt174.1 bt174.2)) = some (r1, r2) := h
 clear h
 obtain ⟨⟨t174, t177⟩, A2, H⟩ := bnd_ H
 dsimp only at H
 have H' := Aside0.mk H
 clear H
 go_enter Try.func51, Try.ntmps51
 go_wp2_with (((with_reducible refine gate_callee (f := 84) rfl ?_); refine goesL_ (some 13) rfl rfl Try.func84 (by kernel_rfl) rfl #[.slice A0 l0.length c0, .slice none 0 0, .bool false] rfl (by (try simp only [List.map_toArray, List.map_cons, List.map_nil]); rfl) ?_; (refine (hushref2_least.calls k (fun k_ => (P0_ k_ ∨ w.heap.size ≤ k_)) _ _ l0 _ _ ([] : List Int) false t174 t177 _ ?side1 ?side2 ?side3 A2.out).mono ?_); (case side1 => exact HO0.out); (case side2 => exact Kd.C_nil _ _); (case side3 => exact Nat.le_refl _); rintro e w3 ⟨v175, rfl, ho0, hb⟩; refine ⟨_, rfl, ?_⟩; replace HO0 := Aside0.mk (Kd.V_below (by (with_reducible repeat (first | apply Kd.V_alloc | apply Kd.V_drewN | apply Kd.V_drew)); exact HO0.out) hb); have HO176 := Aside0.mk (Kd.V_lower (Kd.V_mono (ok' := fun k_ => (P0_ k_ ∨ w.heap.size ≤ k_)) ho0 (fun k_ hk_ => Or.elim hk_ (fun hs_ => hs_) (fun hn_ => (.inr (Nat.le_trans (below_size HB.out) hn_))))) (below_size HB.out)); replace HB := Aside0.mk (below_step HB.out hb); (try clear hb); (try clear ho0)))
 go_loopg [4, 5, 6] k (fun kq v4 v5 v6 w' => ∃ (x4_1 : List (S56)) (x5_1 : List Int) (x6_1 : Bool), v6 = .bool x6_1 ∧ Aside0 (hushref2_Tidy.l0 kq l0 x4_1 x5_1 x6_1 = some (r1, r2)) ∧ Aside0 (kq ≤ k) ∧ Aside0 (Kd.V k56 56 w' w.heap.size (fun k_ => (P0_ k_ ∨ w.heap.size ≤ k_) ∧ some k_ ≠ (v4 : Value).ownBlock) (.slice A0 l0.length c0) l0) ∧ Aside0 (Kd.N k56 56 w' w.heap.size (fun k_ => (P0_ k_ ∨ w.heap.size ≤ k_)) v4 x4_1) ∧ Aside0 (Kd.V (Kd.int .i64) 3 w' w.heap.size (fun k_ => (P0_ k_ ∨ w.heap.size ≤ k_) ∧ some k_ ≠ (v4 : Value).ownBlock) v5 x5_1) ∧ Aside0 (Below w.heap.size w w'))
 case atStart => exact ⟨(([] : List (S56))), (t174), (t177), rfl, H', ⟨Nat.le_refl _⟩, ⟨by (with_reducible repeat (first | apply Kd.V_alloc | apply Kd.V_drewN | apply Kd.V_drew)); exact Kd.V_mono HO0.out (fun _ hk => ⟨hk, (by simp [Value.ownBlock])⟩)⟩, ⟨by exact Kd.N_nil _ _ _ _ _⟩, ⟨by (with_reducible repeat (first | apply Kd.V_alloc | apply Kd.V_drewN | apply Kd.V_drew)); exact Kd.V_mono HO176.out (fun _ hk => ⟨hk, (by simp [Value.ownBlock])⟩)⟩, ⟨HB.out⟩⟩
 case round =>
  clear H'
  obtain ⟨x4_1, x5_1, x6_1, rfl, HA, HK1, HO_0, HO_4, HO_5, HB⟩ := hrel
  cases gk with
  | zero => exact absurd HA.out (by simp [hushref2_Tidy.l0])
  | succ k1 =>
   have H := HA.out
   clear HA
   simp only [hushref2_Tidy.l0] at H
   by_cases c4 : x6_1 = true
   ·
    subst c4
    rw [if_pos rfl] at H
    obtain ⟨t178, A5, H⟩ := bnd_ H
    by_cases c6 : x4_1.length < 4398046511104
    ·
     rw [if_pos c6] at H
     have LMc6 := Aside0.mk c6
     clear c6
     obtain ⟨y179, hy179⟩ : ∃ y_ : List (S56), y_ = (x4_1 ++ [(⟨x5_1, t178⟩ : S56)]) := ⟨_, rfl⟩
     replace H : ((hushref2_least.f k1 l0 x5_1 true).bind fun bt182 => (hushref2_Tidy.l0 k1 l0 y179 bt182.1 bt182.2)) = some (r1, r2) := by (rw [hy179]; with_reducible exact H)
     have Ny179 := Aside0.mk hy179
     clear hy179
     obtain ⟨⟨t182, t185⟩, A7, H⟩ := bnd_ H
     dsimp only at H
     have H' := Aside0.mk H
     clear H
     obtain ⟨Ao8, co8, eo8⟩ := Kd.V_slice HO_5.out
     subst eo8
     go_wp2_with (first | ((with_reducible refine gate_callee (f := 85) rfl ?_); refine goesL_ (some 21) rfl rfl Try.func85 (by kernel_rfl) rfl #[.slice A0 l0.length c0, .slice Ao8 x5_1.length co8] rfl (by (try simp only [List.map_toArray, List.map_cons, List.map_nil]); rfl) ?_; (with_reducible refine (hushref2_Weight.calls k1 _ _ l0 _ _ x5_1 t178 _ ?side1 ?side2 ?side3 ?side4 A5.out).mono ?_); (case side1 => repeat (exact (Kd.V_reads' HO_0.out).2.2)); (case side2 => exact (Kd.V_reads' HO_0.out).2.1); (case side3 => repeat (exact (Kd.V_reads' HO_5.out).2.2)); (case side4 => exact (Kd.V_reads' HO_5.out).2.1); rintro e w9 ⟨rfl, hb⟩; refine ⟨_, rfl, ?_⟩; replace HO_0 := Aside0.mk (Kd.V_below (by (with_reducible repeat (first | apply Kd.V_alloc | apply Kd.V_drewN | apply Kd.V_drew)); exact HO_0.out) hb); replace HO_4 := Aside0.mk (Kd.N_below (by (with_reducible repeat (first | apply Kd.N_alloc | apply Kd.N_drewN | apply Kd.N_drew)); exact HO_4.out) hb); replace HO_5 := Aside0.mk (Kd.V_below (by (with_reducible repeat (first | apply Kd.V_alloc | apply Kd.V_drewN | apply Kd.V_drew)); exact HO_5.out) hb); replace HB := Aside0.mk (below_step HB.out hb); (try clear hb)) | ((with_reducible refine gate_builtin (b := .append) (xs := #[.tmp 17, .tmp 23]) rfl ?_); (try (refine gate_guard rfl ?_; dsimp only)); at_builtin; refine Kd.N_append k56 (w0 := w) w.heap.size rfl (.tmp 17) (.tmp 23) 25 56 (.agg #[(.slice none 0 0), (.int .i64 0)]) 32 rfl Try.underlying25 info56 rfl (by decide) (by omega) u4 x4_1 (⟨x5_1, t178⟩ : S56) [.slice Ao8 x5_1.length co8, .int .i64 t178] (fun k_ => (P0_ k_ ∨ w.heap.size ≤ k_)) (fun k_ => ((fun k_ => (P0_ k_ ∨ w.heap.size ≤ k_))) k_ ∧ some k_ ≠ (u4 : Value).ownBlock) rfl rfl ?aP (fun _ hk => hk) ?aF ?aO ?aB ?aS ?aL ?_; (case aP => exact (k56_mkF _ _ (⟨x5_1, t178⟩ : S56) (Kd.V_reads' (Kd.V_mono (ok' := (fun k_ => ((fun k_ => (P0_ k_ ∨ w.heap.size ≤ k_))) k_ ∧ some k_ ≠ (u4 : Value).ownBlock)) (HO_5.out) (fun k_ hk => ⟨hk.1, hk.2⟩))).2.1 (Kd.V_F (Kd.V_mono (ok' := (fun k_ => ((fun k_ => (P0_ k_ ∨ w.heap.size ≤ k_))) k_ ∧ some k_ ≠ (u4 : Value).ownBlock)) (HO_5.out) (fun k_ hk => ⟨hk.1, hk.2⟩))))); (case aB => exact HB.out); (case aF => exact (fun k_ hk => (.inr (Nat.le_trans (below_size HB.out) hk)))); (case aO => exact (by (with_reducible repeat (first | apply Kd.N_alloc | apply Kd.N_drewN | apply Kd.N_drew)); exact HO_4.out)); (case aS => exact (below_size HB.out)); (case aL => have := LMc6.out; omega); intro v180 w10 ho hb hg hat; rw [← Ny179.out] at ho; replace HO_0 := Aside0.mk (Kd.V_afterv (ok := (fun k_ => (P0_ k_ ∨ w.heap.size ≤ k_))) (by (with_reducible repeat (first | apply Kd.V_alloc | apply Kd.V_drewN | apply Kd.V_drew)); exact HO_0.out) hg hat); replace HO_5 := Aside0.mk (Kd.V_afterv (ok := (fun k_ => (P0_ k_ ∨ w.heap.size ≤ k_))) (by (with_reducible repeat (first | apply Kd.V_alloc | apply Kd.V_drewN | apply Kd.V_drew)); exact HO_5.out) hg hat); replace HB := Aside0.mk (hb); have HO181 := Aside0.mk (ho); clear HO_4; clear ho hb hg hat) | ((with_reducible refine gate_callee (f := 84) rfl ?_); refine goesL_ (some 28) rfl rfl Try.func84 (by kernel_rfl) rfl #[.slice A0 l0.length c0, .slice Ao8 x5_1.length co8, .bool true] rfl (by (try simp only [List.map_toArray, List.map_cons, List.map_nil]); rfl) ?_; (with_reducible refine (hushref2_least.calls k1 (fun k_ => ((P0_ k_ ∨ w.heap.size ≤ k_) ∧ some k_ ≠ (v180 : Value).ownBlock)) _ _ l0 _ _ x5_1 true t182 t185 _ ?side1 ?side2 ?side3 A7.out).mono ?_); (case side1 => exact HO_0.out); (case side2 => repeat (exact (Kd.V_reads' HO_5.out).2.2)); (case side3 => exact (Kd.V_reads' HO_5.out).2.1); rintro e w11 ⟨v183, rfl, ho0, hb⟩; refine ⟨_, rfl, ?_⟩; replace HO_0 := Aside0.mk (Kd.V_below (by (with_reducible repeat (first | apply Kd.V_alloc | apply Kd.V_drewN | apply Kd.V_drew)); exact HO_0.out) hb); replace HO_5 := Aside0.mk (Kd.V_below (by (with_reducible repeat (first | apply Kd.V_alloc | apply Kd.V_drewN | apply Kd.V_drew)); exact HO_5.out) hb); have HO184 := Aside0.mk (Kd.V_lower (Kd.V_mono (ok' := fun k_ => (P0_ k_ ∨ w.heap.size ≤ k_) ∧ some k_ ≠ (v180 : Value).ownBlock) ho0 (fun k_ hk_ => ⟨Or.elim hk_ (fun hs_ => hs_.1) (fun hn_ => (.inr (Nat.le_trans (below_size HB.out) hn_))), Or.elim hk_ (fun hs_ => hs_.2) (fun hn_ => (Kd.fresh' (Kd.N_lt (by (with_reducible repeat (first | apply Kd.N_alloc | apply Kd.N_drewN | apply Kd.N_drew)); exact HO181.out)) k_ hn_))⟩)) (below_size HB.out)); replace HO181 := Aside0.mk (Kd.N_below (by (with_reducible repeat (first | apply Kd.N_alloc | apply Kd.N_drewN | apply Kd.N_drew)); exact HO181.out) hb); replace HB := Aside0.mk (below_step HB.out hb); (try clear hb); (try clear ho0)))
     go_roundg k1
     case measure => have := HK1.out; omega
     case rel => exact ⟨(y179), (t182), (t185), rfl, H', ⟨by have := HK1.out; omega⟩, ⟨by (with_reducible repeat (first | apply Kd.V_alloc | apply Kd.V_drewN | apply Kd.V_drew)); exact HO_0.out⟩, ⟨by (with_reducible repeat (first | apply Kd.N_alloc | apply Kd.N_drewN | apply Kd.N_drew)); exact HO181.out⟩, ⟨by (with_reducible repeat (first | apply Kd.V_alloc | apply Kd.V_drewN | apply Kd.V_drew)); exact HO184.out⟩, ⟨HB.out⟩⟩
    ·
     rw [if_neg c6] at H
     exact absurd H (by simp)
   ·
    replace c4 := Bool.eq_false_iff.mpr c4
    subst c4
    rw [if_neg (show ¬ (false = true) by decide)] at H
    by_cases c12 : (x4_1.length : Int) = 0
    ·
     rw [if_pos c12] at H
     have c12b0 : ((x4_1.length : Int) == 0) = true := beq_iff_eq.mpr c12
     have c12b1 : ((x4_1.length : Int) != 0) = false := bne_eq_false_iff_eq.mpr c12
     clear c12
     simp only [Option.some.injEq, Prod.mk.injEq] at H
     obtain ⟨rfl, rfl⟩ := H
     obtain ⟨Ao13, co13, eo13⟩ := Kd.N_slice HO_4.out
     subst eo13
     go_wp2
     go_ret2
     exact ⟨_, rfl, by exact Kd.N_nil _ _ _ _ _, HB.out⟩
    ·
     rw [if_neg c12] at H
     have c12b0 : ((x4_1.length : Int) == 0) = false := beq_eq_false_iff_ne.mpr c12
     have c12b1 : ((x4_1.length : Int) != 0) = true := bne_iff_ne.mpr c12
     have c12b2 : ¬ (x4_1 = []) := fun h_ => c12 (by rw [h_]; rfl)
     by_cases c14 : 0 < (x4_1.length : Int)
     ·
      rw [if_pos c14] at H
      have c14b0 : decide (0 < (x4_1.length : Int)) = true := decide_eq_true c14
      have c14b1 : decide (0 < x4_1.length) = true := decide_eq_true (by omega)
      clear c14
      have H' := Aside0.mk H
      clear H
      obtain ⟨Ao15, co15, eo15⟩ := Kd.N_slice HO_4.out
      subst eo15
      have p186 : 0 ≤ (0 : Int) := (by omega)
      have q186 : 0 < (x4_1.length : Int) := of_decide_eq_true (by (with_reducible assumption))
      obtain ⟨ad186, A186_0, c186_0, e186, hx186_0, hx186_1, hl186_0, hi186_0⟩ := at_T56 (Kd.N_reads' HO_4.out).2.2 0 p186 q186
      cases e186
      obtain ⟨ce186, hce186, hMe186, hcc186⟩ := Kd.N_get HO_4.out z56 0 p186 (by exact q186)
      obtain ⟨ua186_0, uc186_0, rfl, ul186_0, ge186_0⟩ := k56_openF hMe186
      have hv186_0 := hcc186 0 _ rfl
      rw [Nat.add_zero] at hv186_0
      replace hv186_0 := Option.some.inj (hv186_0.symm.trans hx186_0)
      injection hv186_0 with hva_ hvn_ hvc_
      rw [hva_] at ge186_0
      rw [hvc_] at ul186_0
      have HL186_0 := Aside0.mk (show Kd.V (Kd.int .i64) 3 _ w.heap.size _ _ ((rd_T56 x4_1 0).f0) from Kd.V_mk ul186_0 ge186_0)
      clear hva_ hvn_ hvc_ ge186_0 ul186_0
      clear hcc186 hce186
      have qi186 : (0 < x4_1.length) = True := eq_true (by omega)
      (try rw [show ((0 : Int)).toNat = 0 from rfl] at hx186_0)
      (try rw [show 0 * 2 = 0 from rfl] at hx186_0)
      (try rw [Addr.add_zero'] at hx186_0)
      (try rw [show ((0 : Int)).toNat = 0 from rfl] at hx186_1)
      (try rw [show 0 * 2 = 0 from rfl] at hx186_1)
      (try rw [Addr.add_zero'] at hx186_1)
      have HR186_0 := Aside0.mk hi186_0
      have HC186_0 := Aside0.mk hl186_0
      clear hi186_0 hl186_0
      replace p186 := eq_true p186
      replace q186 := eq_true q186
      go_wp2
      go_loopg [7, 40] k1 (fun kq v7 v40 w' => ∃ (x7_2 : Int) (x40_2 : Int), v7 = .int .i64 x7_2 ∧ v40 = .int .i64 x40_2 ∧ Aside0 (hushref2_Tidy.l1 kq x4_1 x7_2 x4_1 (x4_1.length : Int) x40_2 = some (r1, r2)) ∧ Aside0 (kq ≤ k1) ∧ Aside0 (Kd.N k56 56 w' w.heap.size (fun k_ => (P0_ k_ ∨ w.heap.size ≤ k_)) (.slice (some ad186) x4_1.length co15) x4_1) ∧ Aside0 (Kd.N k56 56 w' w.heap.size (fun k_ => (P0_ k_ ∨ w.heap.size ≤ k_)) (.slice (some ad186) x4_1.length co15) x4_1) ∧ Aside0 (Below w.heap.size w w'))
      case atStart => exact ⟨((rd_T56 x4_1 0).f1), (0), rfl, rfl, H', ⟨Nat.le_refl _⟩, ⟨by (with_reducible repeat (first | apply Kd.N_alloc | apply Kd.N_drewN | apply Kd.N_drew)); exact HO_4.out⟩, ⟨by (with_reducible repeat (first | apply Kd.N_alloc | apply Kd.N_drewN | apply Kd.N_drew)); exact HO_4.out⟩, ⟨HB.out⟩⟩
      case round =>
       clear H'
       try clear c12
       try clear c12b0
       try clear c12b1
       try clear c12b2
       try clear c14b0
       try clear c14b1
       try clear hx186_0
       try clear hx186_1
       try clear p186
       try clear q186
       obtain ⟨x7_2, x40_2, rfl, rfl, HA, HK2, HO_4, HO_38, HB⟩ := hrel
       cases gk with
       | zero => exact absurd HA.out (by simp [hushref2_Tidy.l1])
       | succ k2 =>
        have H := HA.out
        clear HA
        simp only [hushref2_Tidy.l1] at H
        by_cases c16 : x40_2 < (x4_1.length : Int)
        ·
         rw [if_pos c16] at H
         have c16b0 : decide (x40_2 < (x4_1.length : Int)) = true := decide_eq_true c16
         clear c16
         by_cases c17 : 0 ≤ x40_2
         ·
          rw [if_pos c17] at H
          have c17b0 : decide (0 ≤ x40_2) = true := decide_eq_true c17
          clear c17
          by_cases c18 : x40_2 < (x4_1.length : Int)
          ·
           rw [if_pos c18] at H
           have c18b0 : decide (x40_2 < (x4_1.length : Int)) = true := decide_eq_true c18
           clear c18
           obtain ⟨t189, A19, H⟩ := bnd_ H
           have H' := Aside0.mk H
           clear H
           have p187 : 0 ≤ (x40_2 : Int) := of_decide_eq_true (by (with_reducible assumption))
           have q187 : x40_2 < (x4_1.length : Int) := of_decide_eq_true (by (with_reducible assumption))
           obtain ⟨ad187, A187_0, c187_0, e187, hx187_0, hx187_1, hl187_0, hi187_0⟩ := at_T56 (Kd.N_reads' HO_38.out).2.2 x40_2 p187 q187
           obtain rfl : ad186 = ad187 := (by injection e187)
           obtain ⟨ce187, hce187, hMe187, hcc187⟩ := Kd.N_get HO_38.out z56 x40_2 p187 (by exact q187)
           obtain ⟨ua187_0, uc187_0, rfl, ul187_0, ge187_0⟩ := k56_openF hMe187
           have hv187_0 := hcc187 0 _ rfl
           rw [Nat.add_zero] at hv187_0
           replace hv187_0 := Option.some.inj (hv187_0.symm.trans hx187_0)
           injection hv187_0 with hva_ hvn_ hvc_
           rw [hva_] at ge187_0
           rw [hvc_] at ul187_0
           have HL187_0 := Aside0.mk (show Kd.V (Kd.int .i64) 3 _ w.heap.size _ _ ((rd_T56 x4_1 x40_2).f0) from Kd.V_mk ul187_0 ge187_0)
           clear hva_ hvn_ hvc_ ge187_0 ul187_0
           clear hcc187 hce187
           have HR187_0 := Aside0.mk hi187_0
           have HC187_0 := Aside0.mk hl187_0
           clear hi187_0 hl187_0
           replace p187 := eq_true p187
           replace q187 := eq_true q187
           go_wp2_with (first | ((with_reducible refine gate_dst (N := 9) rfl ?_); (try (refine gate_guard rfl ?_; dsimp only)); refine box_event ?hg (N := 9) ?hd (cs := #[.slice none 0 0, .int .i64 0]) (t := 56) ?hr ?_; (case hd | hg => rfl); (case hr => go_simp; done); intro gb188 hg w20 hbox hb; replace HO_4 := Aside0.mk (Kd.N_below (Kd.N_elderB (by (with_reducible repeat (first | apply Kd.N_alloc | apply Kd.N_drewN | apply Kd.N_drew)); exact HO_4.out) gb188 (Nat.le_of_eq hg.symm)) hb); replace HO_38 := Aside0.mk (Kd.N_below (Kd.N_elderB (by (with_reducible repeat (first | apply Kd.N_alloc | apply Kd.N_drewN | apply Kd.N_drew)); exact HO_38.out) gb188 (Nat.le_of_eq hg.symm)) hb); replace HL187_0 := Aside0.mk (Kd.V_below (Kd.V_elderB (by (with_reducible repeat (first | apply Kd.V_alloc | apply Kd.V_drewN | apply Kd.V_drew)); exact HL187_0.out) gb188 (Nat.le_of_eq hg.symm)) hb); replace HR187_0 := Aside0.mk (Kd.C_below HR187_0.out hb); have BK188 := Aside0.mk (hbox); have GW188 := gw_ HB.out hg; have GE188 := gw_ HB.out hg; replace HB := Aside0.mk (below_step HB.out hb); clear hb hbox hg; have hcz21_0 := cz0_ BK188; have hcz21_1 := cz1_ BK188; have hfz21_0 := blk_frozen BK188.out 0; have hfz21_1 := blk_frozen BK188.out 1) | ((with_reducible refine gate_callee (f := 83) rfl ?_); refine goesL_ (some 47) rfl rfl Try.func83 (by kernel_rfl) rfl #[.int .i64 ((rd_T56 x4_1 x40_2).f1), .int .i64 x7_2] rfl (by (try simp only [List.map_toArray, List.map_cons, List.map_nil]); rfl) ?_; (with_reducible refine (hushref1_Divisor.calls k2 ((rd_T56 x4_1 x40_2).f1) x7_2 t189 _ A19.out).mono ?_); rintro e w' ⟨rfl, ⟨nd, rfl⟩⟩; refine ⟨_, rfl, ?_⟩))
           go_roundg k2
           case measure => have := HK1.out; have := HK2.out; omega
           case rel => exact ⟨(t189), (wrap64 (x40_2 + 1)), rfl, rfl, H', ⟨by have := HK1.out; have := HK2.out; omega⟩, ⟨by (with_reducible repeat (apply Kd.N_drewN)); exact Kd.N_mono (Kd.N_far (p := ⟨gb188, 1, none⟩) (Kd.N_far (p := ⟨gb188, 0, none⟩) (Kd.N_mono HO_4.out (fun k_ hk => (⟨hk, hk.2⟩ : _ ∧ k_ ≠ gb188))) (fun _ hk => hk.2) (.slice A187_0 ((rd_T56 x4_1 x40_2).f0).length c187_0)) (fun _ hk => hk.2) (.int .i64 ((rd_T56 x4_1 x40_2).f1))) (fun _ hk => hk.1.1)⟩, ⟨by (with_reducible repeat (apply Kd.N_drewN)); exact Kd.N_mono (Kd.N_far (p := ⟨gb188, 1, none⟩) (Kd.N_far (p := ⟨gb188, 0, none⟩) (Kd.N_mono HO_38.out (fun k_ hk => (⟨hk, hk.2⟩ : _ ∧ k_ ≠ gb188))) (fun _ hk => hk.2) (.slice A187_0 ((rd_T56 x4_1 x40_2).f0).length c187_0)) (fun _ hk => hk.2) (.int .i64 ((rd_T56 x4_1 x40_2).f1))) (fun _ hk => hk.1.1)⟩, ⟨by repeat (with_reducible first | exact HB.out | apply pw_below_drewN | refine below_set ?_ GE188.out)⟩⟩
          ·
           rw [if_neg c18] at H
           exact absurd H (by simp)
         ·
          rw [if_neg c17] at H
          exact absurd H (by simp)
        ·
         rw [if_neg c16] at H
         have c16b0 : decide (x40_2 < (x4_1.length : Int)) = false := decide_eq_false c16
         clear c16
         have HC22 := Aside0.mk H
         clear H
         go_upto_region 14 with (fail)
         go_cut [58] (fun v58 wc => ∃ (kq : Nat) (x58_21 : Bool), v58 = .bool x58_21 ∧ Aside0 (hushref2_Tidy.j2 kq x4_1 x7_2 x58_21 = some (r1, r2)) ∧ Aside0 (kq ≤ k2) ∧ Aside0 (Kd.N k56 56 wc w.heap.size (fun k_ => (P0_ k_ ∨ w.heap.size ≤ k_)) (.slice (some ad186) x4_1.length co15) x4_1) ∧ Aside0 (Below w.heap.size w wc))
         case first =>
          have H := HC22.out
          clear HC22
          obtain ⟨t190, A23, H⟩ := bnd_ H
          by_cases c24 : x7_2 = 0
          ·
           rw [if_pos c24] at H
           exact absurd H (by simp)
          ·
           rw [if_neg c24] at H
           have c24b0 : (x7_2 == 0) = false := beq_eq_false_iff_ne.mpr c24
           have c24b1 : (x7_2 != 0) = true := bne_iff_ne.mpr c24
           by_cases c25 : (wrap64 (Int.tdiv t190 x7_2)) > 1073741824
           ·
            rw [if_pos c25] at H
            have c25b0 : decide (1073741824 < (wrap64 (Int.tdiv t190 x7_2))) = true := decide_eq_true c25
            clear c25
            have H' := Aside0.mk H
            clear H
            go_wp2_with (((with_reducible refine gate_callee (f := 86) rfl ?_); refine goesL_ (some 50) rfl rfl Try.func86 (by kernel_rfl) rfl #[.slice (some ad186) x4_1.length co15] rfl (by (try simp only [List.map_toArray, List.map_cons, List.map_nil]); rfl) ?_; (with_reducible refine (hushref2_Total.calls k2 _ _ x4_1 t190 _ ?side1 ?side2 A23.out).mono ?_); (case side1 => repeat (exact (Kd.N_reads' HO_4.out).2.2)); (case side2 => exact (Kd.N_reads' HO_4.out).2.1); rintro e w26 ⟨rfl, hb⟩; refine ⟨_, rfl, ?_⟩; replace HO_4 := Aside0.mk (Kd.N_below (by (with_reducible repeat (first | apply Kd.N_alloc | apply Kd.N_drewN | apply Kd.N_drew)); exact HO_4.out) hb); replace HO_38 := Aside0.mk (Kd.N_below (by (with_reducible repeat (first | apply Kd.N_alloc | apply Kd.N_drewN | apply Kd.N_drew)); exact HO_38.out) hb); replace HB := Aside0.mk (below_step HB.out hb); (try clear hb)))
            go_meet
            case rel => exact ⟨_, (true), rfl, H', ⟨by have := HK1.out; have := HK2.out; omega⟩, ⟨by (with_reducible repeat (first | apply Kd.N_alloc | apply Kd.N_drewN | apply Kd.N_drew)); exact HO_4.out⟩, ⟨HB.out⟩⟩
           ·
            rw [if_neg c25] at H
            have c25b0 : decide (1073741824 < (wrap64 (Int.tdiv t190 x7_2))) = false := decide_eq_false c25
            clear c25
            have H' := Aside0.mk H
            clear H
            go_wp2_with (((with_reducible refine gate_callee (f := 86) rfl ?_); refine goesL_ (some 50) rfl rfl Try.func86 (by kernel_rfl) rfl #[.slice (some ad186) x4_1.length co15] rfl (by (try simp only [List.map_toArray, List.map_cons, List.map_nil]); rfl) ?_; (with_reducible refine (hushref2_Total.calls k2 _ _ x4_1 t190 _ ?side1 ?side2 A23.out).mono ?_); (case side1 => repeat (exact (Kd.N_reads' HO_4.out).2.2)); (case side2 => exact (Kd.N_reads' HO_4.out).2.1); rintro e w27 ⟨rfl, hb⟩; refine ⟨_, rfl, ?_⟩; replace HO_4 := Aside0.mk (Kd.N_below (by (with_reducible repeat (first | apply Kd.N_alloc | apply Kd.N_drewN | apply Kd.N_drew)); exact HO_4.out) hb); replace HO_38 := Aside0.mk (Kd.N_below (by (with_reducible repeat (first | apply Kd.N_alloc | apply Kd.N_drewN | apply Kd.N_drew)); exact HO_38.out) hb); replace HB := Aside0.mk (below_step HB.out hb); (try clear hb)))
            go_meet
            case rel => exact ⟨_, (decide ((x4_1.length : Int) > 4096)), rfl, H', ⟨by have := HK1.out; have := HK2.out; omega⟩, ⟨by (with_reducible repeat (first | apply Kd.N_alloc | apply Kd.N_drewN | apply Kd.N_drew)); exact HO_4.out⟩, ⟨HB.out⟩⟩
         case rest =>
          clear HC22
          try clear c16b0
          obtain ⟨kq, x58_21, rfl, HA, HJ21, HO_4, HB⟩ := hcut
          cases kq with
          | zero => exact absurd HA.out (by simp [hushref2_Tidy.j2])
          | succ kj21 =>
           have H := HA.out
           clear HA
           simp only [hushref2_Tidy.j2] at H
           by_cases c28 : x58_21 = true
           ·
            subst c28
            rw [if_pos rfl] at H
            simp only [Option.some.injEq, Prod.mk.injEq] at H
            obtain ⟨rfl, rfl⟩ := H
            go_wp2
            go_ret2
            exact ⟨_, rfl, by exact Kd.N_nil _ _ _ _ _, HB.out⟩
           ·
            replace c28 := Bool.eq_false_iff.mpr c28
            subst c28
            rw [if_neg (show ¬ (false = true) by decide)] at H
            have H' := Aside0.mk H
            clear H
            go_wp2
            go_loopg [61] kj21 (fun kq v61 w' => ∃ (x4_4 : List (S56)) (x61_4 : Int), v61 = .int .i64 x61_4 ∧ Aside0 (hushref2_Tidy.l2 kq x4_4 x7_2 (x4_1.length : Int) x61_4 = some (r1, r2)) ∧ Aside0 (kq ≤ kj21) ∧ Aside0 (Kd.N k56 56 w' w.heap.size (fun k_ => (P0_ k_ ∨ w.heap.size ≤ k_)) (.slice (some ad186) x4_1.length co15) x4_4) ∧ Aside0 (Below w.heap.size w w'))
            case atStart => exact ⟨(x4_1), (0), rfl, H', ⟨Nat.le_refl _⟩, ⟨by (with_reducible repeat (first | apply Kd.N_alloc | apply Kd.N_drewN | apply Kd.N_drew)); exact HO_4.out⟩, ⟨HB.out⟩⟩
            case round =>
             clear H'
             obtain ⟨x4_4, x61_4, rfl, HA, HK4, HO_4, HB⟩ := hrel
             have hl4_4 := (Kd.N_reads' HO_4.out).1
             rw [hl4_4] at HO_4
             (try simp only [hl4_4])
             cases gk with
             | zero => exact absurd HA.out (by simp [hushref2_Tidy.l2])
             | succ k4 =>
              have H := HA.out
              clear HA
              simp only [hushref2_Tidy.l2] at H
              by_cases c29 : x61_4 < (x4_1.length : Int)
              ·
               rw [if_pos c29] at H
               have c29b0 : decide (x61_4 < (x4_1.length : Int)) = true := decide_eq_true c29
               clear c29
               by_cases c30 : 0 ≤ x61_4
               ·
                rw [if_pos c30] at H
                have c30b0 : decide (0 ≤ x61_4) = true := decide_eq_true c30
                clear c30
                by_cases c31 : x61_4 < (x4_4.length : Int)
                ·
                 rw [if_pos c31] at H
                 have c31b0 : decide (x61_4 < (x4_4.length : Int)) = true := decide_eq_true c31
                 clear c31
                 by_cases c32 : x7_2 = 0
                 ·
                  rw [if_pos c32] at H
                  exact absurd H (by simp)
                 ·
                  rw [if_neg c32] at H
                  have c32b0 : (x7_2 == 0) = false := beq_eq_false_iff_ne.mpr c32
                  have c32b1 : (x7_2 != 0) = true := bne_iff_ne.mpr c32
                  obtain ⟨y192, hy192⟩ : ∃ y_ : List (S56), y_ = (x4_4.set (x61_4 : Int).toNat (⟨(rd_T56 x4_4 x61_4).f0, wrap64 (Int.tdiv ((rd_T56 x4_4 x61_4).f1) x7_2)⟩ : S56)) := ⟨_, rfl⟩
                  replace H : (hushref2_Tidy.l2 k4 y192 x7_2 (x4_1.length : Int) (wrap64 (x61_4 + 1))) = some (r1, r2) := by (rw [hy192]; with_reducible exact H)
                  have Ny192 := Aside0.mk hy192
                  clear hy192
                  have H' := Aside0.mk H
                  clear H
                  have p191 : 0 ≤ (x61_4 : Int) := of_decide_eq_true (by (with_reducible assumption))
                  have q191 : x61_4 < (x4_4.length : Int) := of_decide_eq_true (by (with_reducible assumption))
                  obtain ⟨ad191, A191_0, c191_0, e191, hx191_0, hx191_1, hl191_0, hi191_0⟩ := at_T56 (Kd.N_reads' HO_4.out).2.2 x61_4 p191 q191
                  obtain rfl : ad186 = ad191 := (by injection e191)
                  obtain ⟨ce191, hce191, hMe191, hcc191⟩ := Kd.N_get HO_4.out z56 x61_4 p191 (by exact q191)
                  obtain ⟨ua191_0, uc191_0, rfl, ul191_0, ge191_0⟩ := k56_openF hMe191
                  have hv191_0 := hcc191 0 _ rfl
                  rw [Nat.add_zero] at hv191_0
                  replace hv191_0 := Option.some.inj (hv191_0.symm.trans hx191_0)
                  injection hv191_0 with hva_ hvn_ hvc_
                  rw [hva_] at ge191_0
                  rw [hvc_] at ul191_0
                  have HL191_0 := Aside0.mk (show Kd.V (Kd.int .i64) 3 _ w.heap.size _ _ ((rd_T56 x4_4 x61_4).f0) from Kd.V_mk ul191_0 ge191_0)
                  clear hva_ hvn_ hvc_ ge191_0 ul191_0
                  clear hcc191 hce191
                  have HR191_0 := Aside0.mk hi191_0
                  have HC191_0 := Aside0.mk hl191_0
                  clear hi191_0 hl191_0
                  replace p191 := eq_true p191
                  replace q191 := eq_true q191
                  have p33 : 0 ≤ (x61_4 : Int) := of_decide_eq_true (by (with_reducible assumption))
                  have q33 : (x61_4 : Int) < ((x4_4.length : Int) : Int) := of_decide_eq_true (by (with_reducible assumption))
                  obtain ⟨go33, co33, eo33, gb33, gl33, cl33, HG33⟩ := Kd.N_form HO_4.out (by omega)
                  (cases eo33)
                  have GB33 := Aside0.mk gb33
                  have GG33 := Aside0.mk HG33
                  clear gb33 gl33 HG33
                  (simp only [add_plain] at hx191_0)
                  (simp only [add_plain] at hx191_1)
                  obtain ⟨ce33, hcl33, hM33, hcc33, hfr33⟩ := Kd.N_elem HO_4.out z56 (x61_4 : Int) p33 q33
                  obtain ⟨ua33_0, uc33_0, rfl, ul33_0, ge33_0⟩ := k56_openF hM33
                  have hx33_0 : wr.cell? ⟨go33, (x61_4 : Int).toNat * 2, none⟩ = some (.slice ua33_0 ((rd_T56 x4_4 x61_4).f0).length uc33_0) := hcc33 0 _ rfl
                  have hx33_1 : wr.cell? ⟨go33, (x61_4 : Int).toNat * 2 + 1, none⟩ = some (.int .i64 ((rd_T56 x4_4 x61_4).f1)) := hcc33 1 _ rfl
                  have hf33_0 : wr.frozen? ⟨go33, (x61_4 : Int).toNat * 2, none⟩ = false := hfr33 0
                  have hf33_1 : wr.frozen? ⟨go33, (x61_4 : Int).toNat * 2 + 1, none⟩ = false := hfr33 1
                  clear hcl33 hcc33 hfr33 hM33
                  replace p33 := eq_true p33
                  replace q33 := eq_true q33
                  have HX34 := Aside0.mk (show Kd.N k56 56 wr w.heap.size (fun k_ => (P0_ k_ ∨ w.heap.size ≤ k_)) (.slice (some ⟨go33, 0, none⟩) x4_4.length co15) x4_4 from (by (with_reducible repeat (first | apply Kd.N_alloc | apply Kd.N_drewN | apply Kd.N_drew)); exact HO_4.out))
                  obtain ⟨ce34, hcl34, hM34, hcc34, hfr34⟩ := Kd.N_elem HX34.out z56 (x61_4 : Int) (of_decide_eq_true (by (with_reducible assumption))) (by have h_ : (x61_4 : Int) < ((x4_4.length : Int) : Int) := of_decide_eq_true (by (with_reducible assumption)); exact h_)
                  obtain ⟨ua34_0, uc34_0, rfl, ul34_0, ge34_0⟩ := k56_openF hM34
                  have HP34 := Kd.N_seg HX34.out (x61_4 : Int) (of_decide_eq_true (by (with_reducible assumption))) (by have h_ : (x61_4 : Int) < ((x4_4.length : Int) : Int) := of_decide_eq_true (by (with_reducible assumption)); exact h_) (seg := [.int .i64 (wrap64 (Int.tdiv ((rd_T56 x4_4 x61_4).f1) x7_2))]) (j := 1) hcl34 hcc34 (show 2 ≤ 2 from by decide) (x' := (⟨(rd_T56 x4_4 x61_4).f0, wrap64 (Int.tdiv ((rd_T56 x4_4 x61_4).f1) x7_2)⟩ : S56)) (k56_mkF _ _ (⟨(rd_T56 x4_4 x61_4).f0, wrap64 (Int.tdiv ((rd_T56 x4_4 x61_4).f1) x7_2)⟩ : S56) ul34_0 ge34_0) (fun _ hk => hk)
                  have hx34_1 := hcc34 1 _ rfl
                  (try simp only [show (k56).sz = 2 from rfl, Nat.mul_one, Nat.add_zero] at hx34_1)
                  have hf34_1 := hfr34 1
                  (try simp only [show (k56).sz = 2 from rfl, Nat.mul_one, Nat.add_zero] at hf34_1)
                  clear hcl34 hcc34 hfr34 hM34
                  go_wp2_with (((with_reducible refine gate_store (t := 3) (p := 74) rfl ?_); refine store_event (t := 3) (p := 74) (v := ?vo_w35) (w1 := (wr.setCell ⟨go33, (x61_4 : Int).toNat * 2 + 1, none⟩ (.int .i64 (wrap64 (Int.tdiv ((rd_T56 x4_4 x61_4).f1) x7_2))))) ?hg ?ho ?hn ?hr ?_; (case ho => rfl); (case hg => rfl); (case hn => rfl); (case hr => go_simp; done); intro w35 hw; have hg : wr.grownBy w35 (some go33) := (by rw [hw]; exact HP34.2); have hp_ : Kd.N k56 56 w35 w.heap.size (fun k_ => (P0_ k_ ∨ w.heap.size ≤ k_)) (.slice (some ⟨go33, 0, none⟩) x4_4.length co15) y192 := (by rw [hw, Ny192.out]; exact HP34.1); clear HP34; replace HO_4 := Aside0.mk (hp_); replace HL191_0 := Aside0.mk (Kd.V_afterv (v := (.slice (some ⟨go33, 0, none⟩) x4_4.length co15)) (v1 := (.slice (some ⟨go33, 0, none⟩) x4_4.length co15)) (ok := (fun k_ => (P0_ k_ ∨ w.heap.size ≤ k_))) (by (with_reducible repeat (first | apply Kd.V_alloc | apply Kd.V_drewN | apply Kd.V_drew)); exact HL191_0.out) hg (.inl rfl)); replace HB := Aside0.mk ((by rw [hw]; exact below_set (HB.out) GB33.out : Below w.heap.size w w35)); clear hg hw hp_))
                  (try simp only [← hl4_4])
                  go_roundg k4
                  case measure => have := HK1.out; have := HK2.out; have := HJ21.out; have := HK4.out; omega
                  case rel => exact ⟨(y192), (wrap64 (x61_4 + 1)), rfl, H', ⟨by have := HK1.out; have := HK2.out; have := HJ21.out; have := HK4.out; omega⟩, ⟨by (try simp only [hl4_4]); (with_reducible repeat (first | apply Kd.N_alloc | apply Kd.N_drewN | apply Kd.N_drew)); exact HO_4.out⟩, ⟨HB.out⟩⟩
                ·
                 rw [if_neg c31] at H
                 exact absurd H (by simp)
               ·
                rw [if_neg c30] at H
                exact absurd H (by simp)
              ·
               rw [if_neg c29] at H
               have c29b0 : decide (x61_4 < (x4_1.length : Int)) = false := decide_eq_false c29
               rw [hl4_4] at c29b0
               clear c29
               simp only [Option.some.injEq, Prod.mk.injEq] at H
               obtain ⟨rfl, rfl⟩ := H
               go_wp2
               go_ret2
               exact ⟨_, rfl, by (with_reducible repeat (first | apply Kd.N_alloc | apply Kd.N_drewN | apply Kd.N_drew)); exact HO_4.out, HB.out⟩
     ·
      rw [if_neg c14] at H
      exact absurd H (by simp)

end Go.Proofs.Yteajcjalpofalaa.PA

/- Functions of the translated program as Lean functions, and what their calls come to: written by this session's own program (wip/xprint.py) over the kit's print. Conditions stand in each theorem. -/
import Derived.Test.YtkemhfhmlcljjaaPDx0
import Derived.Test.YtkemhfhmlcljjaaPDx10
import Derived.Test.YtkemhfhmlcljjaaPDx11
import Derived.Test.YtkemhfhmlcljjaaPDx12
namespace Go.Proofs.Ytkemhfhmlcljjaa.PD
open Go.RowKit Go.Proofs.YtkemhfhmlcljjaaW.PrintWords Go.Proofs.YtkemhfhmlcljjaaW.PrintLast Go.Proofs.YtkemhfhmlcljjaaW.PrintMore
attribute [local go_sem] max2_int min2_int max_two min_two max_three min_three max_four min_four   -- for this text's walks alone
set_option linter.unusedVariables false
set_option linter.unusedSimpArgs false

/-! ### hushref2_Tidy: function 43 -/
mutual
def hushref2_Tidy.l0 : Nat → List (S32) → List (S32) → List Int → Bool → Option ((List (S32)) × Int)
  | 0, _, _, _, _ => none
  | k + 1, x0, x4, x5, x6 => if x6 = true then ((hushref2_Weight.f k x0 x5).bind fun t162 => (if x4.length < 4398046511104 then ((hushref2_least.f k x0 x5 true).bind fun bt166 => (hushref2_Tidy.l0 k x0 (x4 ++ [(⟨x5, t162⟩ : S32)]) bt166.1 bt166.2)) else (none))) else (if (x4.length : Int) = 0 then (some (([] : List (S32)), 6)) else (if 0 < (x4.length : Int) then (hushref2_Tidy.l1 k x4 ((rd_T32 x4 0).f1) x4 (x4.length : Int) 0) else (none)))
def hushref2_Tidy.l1 : Nat → List (S32) → Int → List (S32) → Int → Int → Option ((List (S32)) × Int)
  | 0, _, _, _, _, _ => none
  | k + 1, x4, x7, x38, x39, x40 => if x40 < x39 then (if 0 ≤ x40 then (if x40 < (x38.length : Int) then ((hushref1_Divisor.f k ((rd_T32 x38 x40).f1) x7).bind fun t173 => (hushref2_Tidy.l1 k x4 t173 x38 x39 (wrap64 (x40 + 1)))) else (none)) else (none)) else ((hushref2_Total.f k x4).bind fun t174 => (if x7 = 0 then (none) else (if (wrap64 (Int.tdiv t174 x7)) > 1073741824 then (hushref2_Tidy.j2 k x4 x7 true) else (hushref2_Tidy.j2 k x4 x7 (decide ((x4.length : Int) > 4096))))))
def hushref2_Tidy.j2 : Nat → List (S32) → Int → Bool → Option ((List (S32)) × Int)
  | 0, _, _, _ => none
  | k + 1, x4, x7, x58 => if x58 = true then (some (([] : List (S32)), 4)) else (hushref2_Tidy.l2 k x4 x7 (x4.length : Int) 0)
def hushref2_Tidy.l2 : Nat → List (S32) → Int → Int → Int → Option ((List (S32)) × Int)
  | 0, _, _, _, _ => none
  | k + 1, x4, x7, x60, x61 => if x61 < x60 then (if 0 ≤ x61 then (if x61 < (x4.length : Int) then (if x7 = 0 then (none) else (hushref2_Tidy.l2 k (x4.set (x61 : Int).toNat (⟨(rd_T32 x4 x61).f0, wrap64 (Int.tdiv ((rd_T32 x4 x61).f1) x7)⟩ : S32)) x7 x60 (wrap64 (x61 + 1)))) else (none)) else (none)) else (some (x4, 0))
end
def hushref2_Tidy.f (k : Nat) (l0 : List (S32)) : Option ((List (S32)) × Int) := (hushref2_least.f k l0 ([] : List Int) false).bind fun bt158 => (hushref2_Tidy.l0 k l0 ([] : List (S32)) bt158.1 bt158.2)
theorem hushref2_Tidy.mono_l : ∀ k, (∀ y0 y1 y2 y3, LeO (hushref2_Tidy.l0 k y0 y1 y2 y3) (hushref2_Tidy.l0 (k + 1) y0 y1 y2 y3)) ∧ (∀ y0 y1 y2 y3 y4, LeO (hushref2_Tidy.l1 k y0 y1 y2 y3 y4) (hushref2_Tidy.l1 (k + 1) y0 y1 y2 y3 y4)) ∧ (∀ y0 y1 y2, LeO (hushref2_Tidy.j2 k y0 y1 y2) (hushref2_Tidy.j2 (k + 1) y0 y1 y2)) ∧ (∀ y0 y1 y2 y3, LeO (hushref2_Tidy.l2 k y0 y1 y2 y3) (hushref2_Tidy.l2 (k + 1) y0 y1 y2 y3))
  | 0 => ⟨fun _ _ _ _ r h => by simp [hushref2_Tidy.l0] at h, fun _ _ _ _ _ r h => by simp [hushref2_Tidy.l1] at h, fun _ _ _ r h => by simp [hushref2_Tidy.j2] at h, fun _ _ _ _ r h => by simp [hushref2_Tidy.l2] at h⟩
  | k + 1 => by
    obtain ⟨ih0, ih1, ih2, ih3⟩ := hushref2_Tidy.mono_l k
    refine ⟨?_, ?_, ?_, ?_⟩
    · intro y0 y1 y2 y3
      unfold hushref2_Tidy.l0
      repeat' first
      | (with_reducible exact ih0 _ _ _ _)
      | (with_reducible exact ih1 _ _ _ _ _)
      | (with_reducible exact ih2 _ _ _)
      | (with_reducible exact ih3 _ _ _ _)
      | (with_reducible exact hushref1_Divisor.mono _ _ _)
      | (with_reducible exact hushref2_Total.mono _ _)
      | (with_reducible exact hushref2_Weight.mono _ _ _)
      | (with_reducible exact hushref2_least.mono _ _ _ _)
      | (with_reducible exact LeO.refl _)
      | (with_reducible exact LeO.none _)
      | (with_reducible refine LeO.ite ?_ ?_)
      | (with_reducible refine LeO.bind ?_ (fun _ => ?_))
      | exact ih0 _ _ _ _
      | exact ih1 _ _ _ _ _
      | exact ih2 _ _ _
      | exact ih3 _ _ _ _
      | exact hushref1_Divisor.mono _ _ _
      | exact hushref2_Total.mono _ _
      | exact hushref2_Weight.mono _ _ _
      | exact hushref2_least.mono _ _ _ _
      | exact LeO.none _
      | refine LeO.ite ?_ ?_
      | refine LeO.bind ?_ (fun _ => ?_)
    · intro y0 y1 y2 y3 y4
      unfold hushref2_Tidy.l1
      repeat' first
      | (with_reducible exact ih0 _ _ _ _)
      | (with_reducible exact ih1 _ _ _ _ _)
      | (with_reducible exact ih2 _ _ _)
      | (with_reducible exact ih3 _ _ _ _)
      | (with_reducible exact hushref1_Divisor.mono _ _ _)
      | (with_reducible exact hushref2_Total.mono _ _)
      | (with_reducible exact hushref2_Weight.mono _ _ _)
      | (with_reducible exact hushref2_least.mono _ _ _ _)
      | (with_reducible exact LeO.refl _)
      | (with_reducible exact LeO.none _)
      | (with_reducible refine LeO.ite ?_ ?_)
      | (with_reducible refine LeO.bind ?_ (fun _ => ?_))
      | exact ih0 _ _ _ _
      | exact ih1 _ _ _ _ _
      | exact ih2 _ _ _
      | exact ih3 _ _ _ _
      | exact hushref1_Divisor.mono _ _ _
      | exact hushref2_Total.mono _ _
      | exact hushref2_Weight.mono _ _ _
      | exact hushref2_least.mono _ _ _ _
      | exact LeO.none _
      | refine LeO.ite ?_ ?_
      | refine LeO.bind ?_ (fun _ => ?_)
    · intro y0 y1 y2
      unfold hushref2_Tidy.j2
      repeat' first
      | (with_reducible exact ih0 _ _ _ _)
      | (with_reducible exact ih1 _ _ _ _ _)
      | (with_reducible exact ih2 _ _ _)
      | (with_reducible exact ih3 _ _ _ _)
      | (with_reducible exact hushref1_Divisor.mono _ _ _)
      | (with_reducible exact hushref2_Total.mono _ _)
      | (with_reducible exact hushref2_Weight.mono _ _ _)
      | (with_reducible exact hushref2_least.mono _ _ _ _)
      | (with_reducible exact LeO.refl _)
      | (with_reducible exact LeO.none _)
      | (with_reducible refine LeO.ite ?_ ?_)
      | (with_reducible refine LeO.bind ?_ (fun _ => ?_))
      | exact ih0 _ _ _ _
      | exact ih1 _ _ _ _ _
      | exact ih2 _ _ _
      | exact ih3 _ _ _ _
      | exact hushref1_Divisor.mono _ _ _
      | exact hushref2_Total.mono _ _
      | exact hushref2_Weight.mono _ _ _
      | exact hushref2_least.mono _ _ _ _
      | exact LeO.none _
      | refine LeO.ite ?_ ?_
      | refine LeO.bind ?_ (fun _ => ?_)
    · intro y0 y1 y2 y3
      unfold hushref2_Tidy.l2
      repeat' first
      | (with_reducible exact ih0 _ _ _ _)
      | (with_reducible exact ih1 _ _ _ _ _)
      | (with_reducible exact ih2 _ _ _)
      | (with_reducible exact ih3 _ _ _ _)
      | (with_reducible exact hushref1_Divisor.mono _ _ _)
      | (with_reducible exact hushref2_Total.mono _ _)
      | (with_reducible exact hushref2_Weight.mono _ _ _)
      | (with_reducible exact hushref2_least.mono _ _ _ _)
      | (with_reducible exact LeO.refl _)
      | (with_reducible exact LeO.none _)
      | (with_reducible refine LeO.ite ?_ ?_)
      | (with_reducible refine LeO.bind ?_ (fun _ => ?_))
      | exact ih0 _ _ _ _
      | exact ih1 _ _ _ _ _
      | exact ih2 _ _ _
      | exact ih3 _ _ _ _
      | exact hushref1_Divisor.mono _ _ _
      | exact hushref2_Total.mono _ _
      | exact hushref2_Weight.mono _ _ _
      | exact hushref2_least.mono _ _ _ _
      | exact LeO.none _
      | refine LeO.ite ?_ ?_
      | refine LeO.bind ?_ (fun _ => ?_)
theorem hushref2_Tidy.mono : ∀ a0 k, LeO (hushref2_Tidy.f k a0) (hushref2_Tidy.f (k + 1) a0) := by
  intro a0 k
  obtain ⟨ih0, ih1, ih2, ih3⟩ := hushref2_Tidy.mono_l k
  unfold hushref2_Tidy.f
  repeat' first
      | (with_reducible exact ih0 _ _ _ _)
      | (with_reducible exact ih1 _ _ _ _ _)
      | (with_reducible exact ih2 _ _ _)
      | (with_reducible exact ih3 _ _ _ _)
      | (with_reducible exact hushref1_Divisor.mono _ _ _)
      | (with_reducible exact hushref2_Total.mono _ _)
      | (with_reducible exact hushref2_Weight.mono _ _ _)
      | (with_reducible exact hushref2_least.mono _ _ _ _)
      | (with_reducible exact LeO.refl _)
      | (with_reducible exact LeO.none _)
      | (with_reducible refine LeO.ite ?_ ?_)
      | (with_reducible refine LeO.bind ?_ (fun _ => ?_))
      | exact ih0 _ _ _ _
      | exact ih1 _ _ _ _ _
      | exact ih2 _ _ _
      | exact ih3 _ _ _ _
      | exact hushref1_Divisor.mono _ _ _
      | exact hushref2_Total.mono _ _
      | exact hushref2_Weight.mono _ _ _
      | exact hushref2_least.mono _ _ _ _
      | exact LeO.none _
      | refine LeO.ite ?_ ?_
      | refine LeO.bind ?_ (fun _ => ?_)
set_option maxHeartbeats 8000000 in
set_option maxRecDepth 100000 in
theorem hushref2_Tidy.calls (k : Nat) (P0_ : Nat → Prop) (A0 : Option Addr) (c0 : Nat) (l0 : List (S32)) (r1 : List (S32)) (r2 : Int) (w : World) (hs0 : Kd.V k32 32 w w.heap.size (fun k_ => P0_ k_) (.slice A0 l0.length c0) l0) (h : hushref2_Tidy.f k l0 = some (r1, r2)) :
    Calls Try.prog 43 #[.slice A0 l0.length c0] w fun e w' => ∃ v0_ : Value, e = .returned (.tuple #[v0_, .int .i64 r2]) ∧ Kd.N k32 32 w' w.heap.size (fun k_ => (P0_ k_ ∨ w.heap.size ≤ k_)) v0_ r1 ∧ Below w.heap.size w w' := by
  have hu32 := Try.underlying32
  have HO0 := Aside0.mk (show Kd.V k32 32 w w.heap.size (fun k_ => (P0_ k_ ∨ w.heap.size ≤ k_)) (.slice A0 l0.length c0) l0 from Kd.V_mono hs0 (fun k_ hk => .inl hk))
  have HB := Aside0.mk (Below.refl w.heap.size w)
  have H : ((hushref2_least.f k l0 ([] : List Int) false).bind fun bt158 => (hushref2_Tidy.l0 k l0 ([] : List (S32)) bt158.1 bt158.2)) = some (r1, r2) := h
  clear h
  replace H := Option.bind_eq_some_iff.mp H
  obtain ⟨⟨t158, t161⟩, A20, H⟩ := H
  replace H : (hushref2_Tidy.l0 k l0 ([] : List (S32)) t158 t161) = some (r1, r2) := H
  have A2 := Aside0.mk A20
  clear A20
  have H' := Aside0.mk H
  clear H
  go_enter Try.func43, Try.ntmps43
  go_wp2_with (first | ((with_reducible refine gate_callee (f := 80) rfl ?_); refine goesL_ (some 13) rfl rfl Try.func80 (by kernel_rfl) rfl #[.slice A0 l0.length c0, .slice none 0 0, .bool false] rfl (by (try simp only [List.map_toArray, List.map_cons, List.map_nil]); first | done | rfl | (simp only [List.length_drop, List.length_take]; rfl)) ?_; (refine (hushref2_least.calls k (fun k_ => (P0_ k_ ∨ w.heap.size ≤ k_)) _ _ l0 _ _ ([] : List Int) false t158 t161 _ ?side1 ?side2 ?side3 A2.out).mono ?_); (case side1 => exact HO0.out); (case side2 => exact Kd.C_nil _ _); (case side3 => exact Nat.le_refl _); rintro e w3 ⟨v159, rfl, ho0, hb⟩; refine ⟨_, rfl, ?_⟩; have n0_ := Aside0.mk (Kd.V_below (by (with_reducible repeat (first | apply Kd.V_alloc | apply Kd.V_drewN | apply Kd.V_drew)); exact HO0.out) hb); have n1_ := Aside0.mk (Kd.V_lower (Kd.V_mono (ok' := fun k_ => (P0_ k_ ∨ w.heap.size ≤ k_)) ho0 (fun k_ hk_ => Or.elim hk_ (fun hs_ => hs_) (fun hn_ => (.inr (Nat.le_trans (below_size (by repeat (first | (with_reducible first | exact HB.out | apply below_alloc | apply pw_below_drewN | apply below_drew1) | exact HB.out))) hn_))))) (below_size (by repeat (first | (with_reducible first | exact HB.out | apply below_alloc | apply pw_below_drewN | apply below_drew1) | exact HB.out)))); have n2_ := Aside0.mk (below_step (by repeat (first | (with_reducible first | exact HB.out | apply below_alloc | apply pw_below_drewN | apply below_drew1) | exact HB.out)) hb); clear HO0; clear HB; have HO0 := n0_; have HO160 := n1_; have HB := n2_; clear n0_ n1_ n2_; (try clear hb); (try clear hb2); (try clear hk); (try clear hi); (try clear ho0)))
  go_loopg [4, 5, 6] k (fun kq v4 v5 v6 w' => ∃ (x4_1 : List (S32)) (x5_1 : List Int) (x6_1 : Bool), v6 = .bool x6_1 ∧ Aside0 (hushref2_Tidy.l0 kq l0 x4_1 x5_1 x6_1 = some (r1, r2)) ∧ Aside0 (kq ≤ k) ∧ Aside0 (Kd.V k32 32 w' w.heap.size (fun k_ => (P0_ k_ ∨ w.heap.size ≤ k_) ∧ some k_ ≠ (v4 : Value).ownBlock) (.slice A0 l0.length c0) l0) ∧ Aside0 (Kd.N k32 32 w' w.heap.size (fun k_ => (P0_ k_ ∨ w.heap.size ≤ k_)) v4 x4_1) ∧ Aside0 (Kd.V (Kd.int .i64) 3 w' w.heap.size (fun k_ => (P0_ k_ ∨ w.heap.size ≤ k_) ∧ some k_ ≠ (v4 : Value).ownBlock) v5 x5_1) ∧ Aside0 (Below w.heap.size w w'))
  case atStart => exact ⟨(([] : List (S32))), (t158), (t161), (by first | rfl | (simp; done) | (simp [*]; done)), H', ⟨Nat.le_refl _⟩, ⟨by (with_reducible repeat (first | apply Kd.V_alloc | apply Kd.V_drewN | apply Kd.V_drew)); exact Kd.V_mono HO0.out (fun _ hk => ⟨hk, (by simp [Value.ownBlock])⟩)⟩, ⟨by first | exact Kd.S_nil _ _ _ _ _ | exact Kd.N_nil _ _ _ _ _ | exact Kd.V_nil _ _ _ _ _ | exact Kd.Q_nil _ _ _ _ _ | exact Kd.R_nil _ _ _ _ _⟩, ⟨by (with_reducible repeat (first | apply Kd.V_alloc | apply Kd.V_drewN | apply Kd.V_drew)); exact Kd.V_mono HO160.out (fun _ hk => ⟨hk, (by simp [Value.ownBlock])⟩)⟩, ⟨by repeat (first | (with_reducible first | exact HB.out | apply below_alloc | apply pw_below_drewN | apply below_drew1) | exact HB.out)⟩⟩
  case round =>
    clear H'
    try clear p2
    obtain ⟨x4_1, x5_1, x6_1, rfl, HA, HK1, HO_0, HO_4, HO_5, HB⟩ := hrel
    cases gk with
    | zero => exact absurd HA.out (by simp [hushref2_Tidy.l0])
    | succ k1 =>
      have H := HA.out
      clear HA
      simp only [hushref2_Tidy.l0] at H
      by_cases c4 : x6_1 = true
      · subst c4
        have H1 : ((hushref2_Weight.f k1 l0 x5_1).bind fun t162 => (if x4_1.length < 4398046511104 then ((hushref2_least.f k1 l0 x5_1 true).bind fun bt166 => (hushref2_Tidy.l0 k1 l0 (x4_1 ++ [(⟨x5_1, t162⟩ : S32)]) bt166.1 bt166.2)) else (none))) = some (r1, r2) := by rw [if_pos rfl] at H; exact H
        clear H
        have H := H1
        clear H1
        replace H := Option.bind_eq_some_iff.mp H
        obtain ⟨t162, A50, H⟩ := H
        replace H : (if x4_1.length < 4398046511104 then ((hushref2_least.f k1 l0 x5_1 true).bind fun bt166 => (hushref2_Tidy.l0 k1 l0 (x4_1 ++ [(⟨x5_1, t162⟩ : S32)]) bt166.1 bt166.2)) else (none)) = some (r1, r2) := H
        have A5 := Aside0.mk A50
        clear A50
        by_cases c6 : x4_1.length < 4398046511104
        · rw [if_pos c6] at H
          have LMc6 := Aside0.mk c6
          clear c6
          obtain ⟨y163, hy163⟩ : ∃ y_ : List (S32), y_ = (x4_1 ++ [(⟨x5_1, t162⟩ : S32)]) := ⟨_, rfl⟩
          replace H : ((hushref2_least.f k1 l0 x5_1 true).bind fun bt166 => (hushref2_Tidy.l0 k1 l0 y163 bt166.1 bt166.2)) = some (r1, r2) := by first | (rw [hy163]; with_reducible exact H) | (have H2_ := (Option.bind_some _ _).symm.trans H; rw [hy163]; with_reducible exact H2_) | (have H2_ := (Option.bind_some _ _).symm.trans H; with_reducible exact H2_) | with_reducible exact H | (rw [hy163]; exact H) | exact H
          have Ny163 := Aside0.mk hy163
          clear hy163
          replace H := Option.bind_eq_some_iff.mp H
          obtain ⟨⟨t166, t169⟩, A70, H⟩ := H
          replace H : (hushref2_Tidy.l0 k1 l0 y163 t166 t169) = some (r1, r2) := H
          have A7 := Aside0.mk A70
          clear A70
          have H' := Aside0.mk H
          clear H
          obtain ⟨Ao8, co8, eo8⟩ := Kd.V_slice HO_5.out
          subst eo8
          go_wp2_with (first | ((with_reducible refine gate_callee (f := 50) rfl ?_); refine goesL_ (some 21) rfl rfl Try.func50 (by kernel_rfl) rfl #[.slice A0 l0.length c0, .slice Ao8 x5_1.length co8] rfl (by (try simp only [List.map_toArray, List.map_cons, List.map_nil]); first | done | rfl | (simp only [List.length_drop, List.length_take]; rfl)) ?_; (with_reducible refine (hushref2_Weight.calls k1 _ _ l0 _ _ x5_1 t162 _ ?side1 ?side2 ?side3 ?side4 A5.out).mono ?_); (case side1 => repeat (first | exact (Kd.V_reads' HO_0.out).2.2 | (with_reducible refine Kd.C_alloc ?_ _) | (with_reducible refine Kd.C_drewN ?_ _) | (with_reducible refine Kd.C_drew ?_))); (case side2 => exact (Kd.V_reads' HO_0.out).2.1); (case side3 => repeat (first | exact (Kd.V_reads' HO_5.out).2.2 | (with_reducible refine Kd.C_alloc ?_ _) | (with_reducible refine Kd.C_drewN ?_ _) | (with_reducible refine Kd.C_drew ?_))); (case side4 => exact (Kd.V_reads' HO_5.out).2.1); rintro e w9 ⟨rfl, hb⟩; refine ⟨_, rfl, ?_⟩; have n0_ := Aside0.mk (Kd.V_below (by (with_reducible repeat (first | apply Kd.V_alloc | apply Kd.V_drewN | apply Kd.V_drew)); exact HO_0.out) hb); have n1_ := Aside0.mk (Kd.N_below (by (with_reducible repeat (first | apply Kd.N_alloc | apply Kd.N_drewN | apply Kd.N_drew)); exact HO_4.out) hb); have n2_ := Aside0.mk (Kd.V_below (by (with_reducible repeat (first | apply Kd.V_alloc | apply Kd.V_drewN | apply Kd.V_drew)); exact HO_5.out) hb); have n3_ := Aside0.mk (below_step (by repeat (first | (with_reducible first | exact HB.out | apply below_alloc | apply pw_below_drewN | apply below_drew1) | exact HB.out)) hb); clear HO_0; clear HO_4; clear HO_5; clear HB; have HO_0 := n0_; have HO_4 := n1_; have HO_5 := n2_; have HB := n3_; clear n0_ n1_ n2_ n3_; (try clear hb); (try clear hb2); (try clear hk); (try clear hi)) | ((with_reducible refine gate_builtin (b := .append) (xs := #[.tmp 17, .tmp 23]) rfl ?_); (try (refine gate_guard (by rfl) ?_; dsimp only)); at_builtin; refine Kd.N_append k32 (w0 := w) w.heap.size rfl (.tmp 17) (.tmp 23) 23 32 (.agg #[(.slice none 0 0), (.int .i64 0)]) 32 rfl Try.underlying23 info32 rfl (by decide) (by omega) u4 x4_1 (⟨x5_1, t162⟩ : S32) [.slice Ao8 x5_1.length co8, .int .i64 t162] (fun k_ => (P0_ k_ ∨ w.heap.size ≤ k_)) (fun k_ => ((fun k_ => (P0_ k_ ∨ w.heap.size ≤ k_))) k_ ∧ some k_ ≠ (u4 : Value).ownBlock) rfl rfl ?aP (fun _ hk => hk) ?aF ?aO ?aB ?aS ?aL ?_; (case aP => exact (k32_mkF _ _ (⟨x5_1, t162⟩ : S32) (Kd.V_reads' (Kd.V_mono (ok' := (fun k_ => ((fun k_ => (P0_ k_ ∨ w.heap.size ≤ k_))) k_ ∧ some k_ ≠ (u4 : Value).ownBlock)) (HO_5.out) (fun k_ hk => ⟨hk.1, hk.2⟩))).2.1 (Kd.V_F (Kd.V_mono (ok' := (fun k_ => ((fun k_ => (P0_ k_ ∨ w.heap.size ≤ k_))) k_ ∧ some k_ ≠ (u4 : Value).ownBlock)) (HO_5.out) (fun k_ hk => ⟨hk.1, hk.2⟩))))); (case aB => exact (by repeat (first | (with_reducible first | exact HB.out | apply below_alloc | apply pw_below_drewN | apply below_drew1) | exact HB.out))); (case aF => exact (fun k_ hk => (.inr (Nat.le_trans (below_size (by repeat (first | (with_reducible first | exact HB.out | apply below_alloc | apply pw_below_drewN | apply below_drew1) | exact HB.out))) hk)))); (case aO => exact (by (with_reducible repeat (first | apply Kd.N_alloc | apply Kd.N_drewN | apply Kd.N_drew)); exact HO_4.out)); (case aS => exact (below_size (by repeat (first | (with_reducible first | exact HB.out | apply below_alloc | apply pw_below_drewN | apply below_drew1) | exact HB.out)))); (case aL => have := LMc6.out; omega); intro v164 w10 ho hb hg hat; rw [← Ny163.out] at ho; have n0_ := Aside0.mk (Kd.V_afterv (ok := (fun k_ => (P0_ k_ ∨ w.heap.size ≤ k_))) (by (with_reducible repeat (first | apply Kd.V_alloc | apply Kd.V_drewN | apply Kd.V_drew)); exact HO_0.out) hg hat); have n1_ := Aside0.mk (Kd.V_afterv (ok := (fun k_ => (P0_ k_ ∨ w.heap.size ≤ k_))) (by (with_reducible repeat (first | apply Kd.V_alloc | apply Kd.V_drewN | apply Kd.V_drew)); exact HO_5.out) hg hat); have n2_ := Aside0.mk (hb); have n3_ := Aside0.mk (ho); clear HO_0; clear HO_5; clear HB; clear HO_4; have HO_0 := n0_; have HO_5 := n1_; have HB := n2_; have HO165 := n3_; clear n0_ n1_ n2_ n3_; clear ho hb hg hat) | ((with_reducible refine gate_callee (f := 80) rfl ?_); refine goesL_ (some 28) rfl rfl Try.func80 (by kernel_rfl) rfl #[.slice A0 l0.length c0, .slice Ao8 x5_1.length co8, .bool true] rfl (by (try simp only [List.map_toArray, List.map_cons, List.map_nil]); first | done | rfl | (simp only [List.length_drop, List.length_take]; rfl)) ?_; (with_reducible refine (hushref2_least.calls k1 (fun k_ => ((P0_ k_ ∨ w.heap.size ≤ k_) ∧ some k_ ≠ (v164 : Value).ownBlock)) _ _ l0 _ _ x5_1 true t166 t169 _ ?side1 ?side2 ?side3 A7.out).mono ?_); (case side1 => exact HO_0.out); (case side2 => repeat (first | exact (Kd.V_reads' HO_5.out).2.2 | (with_reducible refine Kd.C_alloc ?_ _) | (with_reducible refine Kd.C_drewN ?_ _) | (with_reducible refine Kd.C_drew ?_))); (case side3 => exact (Kd.V_reads' HO_5.out).2.1); rintro e w11 ⟨v167, rfl, ho0, hb⟩; refine ⟨_, rfl, ?_⟩; have n0_ := Aside0.mk (Kd.V_below (by (with_reducible repeat (first | apply Kd.V_alloc | apply Kd.V_drewN | apply Kd.V_drew)); exact HO_0.out) hb); have n1_ := Aside0.mk (Kd.V_below (by (with_reducible repeat (first | apply Kd.V_alloc | apply Kd.V_drewN | apply Kd.V_drew)); exact HO_5.out) hb); have n2_ := Aside0.mk (Kd.N_below (by (with_reducible repeat (first | apply Kd.N_alloc | apply Kd.N_drewN | apply Kd.N_drew)); exact HO165.out) hb); have n3_ := Aside0.mk (Kd.V_lower (Kd.V_mono (ok' := fun k_ => (P0_ k_ ∨ w.heap.size ≤ k_) ∧ some k_ ≠ (v164 : Value).ownBlock) ho0 (fun k_ hk_ => ⟨Or.elim hk_ (fun hs_ => hs_.1) (fun hn_ => (.inr (Nat.le_trans (below_size (by repeat (first | (with_reducible first | exact HB.out | apply below_alloc | apply pw_below_drewN | apply below_drew1) | exact HB.out))) hn_))), Or.elim hk_ (fun hs_ => hs_.2) (fun hn_ => (Kd.fresh' (Kd.N_lt (by (with_reducible repeat (first | apply Kd.N_alloc | apply Kd.N_drewN | apply Kd.N_drew)); exact HO165.out)) k_ hn_))⟩)) (below_size (by repeat (first | (with_reducible first | exact HB.out | apply below_alloc | apply pw_below_drewN | apply below_drew1) | exact HB.out)))); have n4_ := Aside0.mk (below_step (by repeat (first | (with_reducible first | exact HB.out | apply below_alloc | apply pw_below_drewN | apply below_drew1) | exact HB.out)) hb); clear HO_0; clear HO_5; clear HO165; clear HB; have HO_0 := n0_; have HO_5 := n1_; have HO165 := n2_; have HO168 := n3_; have HB := n4_; clear n0_ n1_ n2_ n3_ n4_; (try clear hb); (try clear hb2); (try clear hk); (try clear hi); (try clear ho0)))
          go_roundg k1
          case measure => have := HK1.out; omega
          case rel => exact ⟨(y163), (t166), (t169), (by first | rfl | (simp; done) | (simp [*]; done)), H', ⟨by have := HK1.out; omega⟩, ⟨by (with_reducible repeat (first | apply Kd.V_alloc | apply Kd.V_drewN | apply Kd.V_drew)); exact HO_0.out⟩, ⟨by (with_reducible repeat (first | apply Kd.N_alloc | apply Kd.N_drewN | apply Kd.N_drew)); exact HO165.out⟩, ⟨by (with_reducible repeat (first | apply Kd.V_alloc | apply Kd.V_drewN | apply Kd.V_drew)); exact HO168.out⟩, ⟨by repeat (first | (with_reducible first | exact HB.out | apply below_alloc | apply pw_below_drewN | apply below_drew1) | exact HB.out)⟩⟩
        · rw [if_neg c6] at H
          exact absurd H (by simp)
      · replace c4 := Bool.eq_false_iff.mpr c4
        subst c4
        have H1 : (if (x4_1.length : Int) = 0 then (some (([] : List (S32)), 6)) else (if 0 < (x4_1.length : Int) then (hushref2_Tidy.l1 k1 x4_1 ((rd_T32 x4_1 0).f1) x4_1 (x4_1.length : Int) 0) else (none))) = some (r1, r2) := by rw [if_neg (show ¬ (false = true) by decide)] at H; exact H
        clear H
        have H := H1
        clear H1
        by_cases c12 : (x4_1.length : Int) = 0
        · rw [if_pos c12] at H
          have c12b0 : ((x4_1.length : Int) == 0) = true := beq_iff_eq.mpr c12
          have c12b1 : ((x4_1.length : Int) != 0) = false := bne_eq_false_iff_eq.mpr c12
          clear c12
          simp only [Option.some.injEq, Prod.mk.injEq] at H
          obtain ⟨rfl, rfl⟩ := H
          obtain ⟨Ao13, co13, eo13⟩ := Kd.N_slice HO_4.out
          subst eo13
          go_wp2
          go_ret2
          exact ⟨_, by first | rfl | (simp [errW_none, errW_some] <;> rfl) | (simp [*, errW_none, errW_some] <;> rfl), by first | exact Kd.S_nil _ _ _ _ _ | exact Kd.N_nil _ _ _ _ _ | exact Kd.V_nil _ _ _ _ _ | exact Kd.Q_nil _ _ _ _ _ | exact Kd.R_nil _ _ _ _ _, by repeat (first | (with_reducible first | exact HB.out | apply below_alloc | apply pw_below_drewN | apply below_drew1) | exact HB.out)⟩
        · rw [if_neg c12] at H
          have c12b0 : ((x4_1.length : Int) == 0) = false := beq_eq_false_iff_ne.mpr c12
          have c12b1 : ((x4_1.length : Int) != 0) = true := bne_iff_ne.mpr c12
          have c12b2 : ¬ (x4_1 = []) := fun h_ => c12 (by rw [h_]; rfl)
          by_cases c14 : 0 < (x4_1.length : Int)
          · rw [if_pos c14] at H
            have c14b0 : decide (0 < (x4_1.length : Int)) = true := decide_eq_true c14
            have c14b1 : decide (0 < x4_1.length) = true := decide_eq_true (by omega)
            clear c14
            have H' := Aside0.mk H
            clear H
            obtain ⟨Ao15, co15, eo15⟩ := Kd.N_slice HO_4.out
            subst eo15
            have p170 : 0 ≤ (0 : Int) := (by omega)
            have q170 : 0 < (x4_1.length : Int) := of_decide_eq_true (by first | (with_reducible assumption) | assumption)
            obtain ⟨ad170, A170_0, c170_0, e170, hx170_0, hx170_1, hl170_0, hi170_0⟩ := at_T32 (Kd.N_reads' HO_4.out).2.2 0 p170 q170
            cases e170
            obtain ⟨ce170, hce170, hMe170, hcc170⟩ := Kd.N_get HO_4.out z32 0 p170 (by first | exact q170 | exact of_decide_eq_true (by first | (with_reducible assumption) | assumption) | (have e_ := (Kd.N_reads' HO_4.out).1; omega))
            obtain ⟨ua170_0, uc170_0, rfl, ul170_0, ge170_0⟩ := k32_openF hMe170
            have hv170_0 := hcc170 0 _ rfl
            rw [Nat.add_zero] at hv170_0
            replace hv170_0 := Option.some.inj (hv170_0.symm.trans hx170_0)
            injection hv170_0 with hva_ hvn_ hvc_
            rw [hva_] at ge170_0
            rw [hvc_] at ul170_0
            have HL170_0 := Aside0.mk (show Kd.V (Kd.int .i64) 3 _ w.heap.size _ _ ((rd_T32 x4_1 0).f0) from Kd.V_mk ul170_0 ge170_0)
            clear hva_ hvn_ hvc_ ge170_0 ul170_0
            clear hcc170 hce170
            have qi170 : (0 < x4_1.length) = True := eq_true (by omega)
            (try rw [show ((0 : Int)).toNat = 0 from rfl] at hx170_0)
            (try rw [show 0 * 2 = 0 from rfl] at hx170_0)
            (try rw [Addr.add_zero'] at hx170_0)
            (try rw [show ((0 : Int)).toNat = 0 from rfl] at hx170_1)
            (try rw [show 0 * 2 = 0 from rfl] at hx170_1)
            (try rw [Addr.add_zero'] at hx170_1)
            have HR170_0 := Aside0.mk hi170_0
            have HC170_0 := Aside0.mk hl170_0
            clear hi170_0 hl170_0
            replace p170 := eq_true p170
            replace q170 := eq_true q170
            go_wp2
            go_loopg [7, 40] k1 (fun kq v7 v40 w' => ∃ (x7_2 : Int) (x40_2 : Int), v7 = .int .i64 x7_2 ∧ v40 = .int .i64 x40_2 ∧ Aside0 (hushref2_Tidy.l1 kq x4_1 x7_2 x4_1 (x4_1.length : Int) x40_2 = some (r1, r2)) ∧ Aside0 (kq ≤ k1) ∧ Aside0 (Kd.N k32 32 w' w.heap.size (fun k_ => (P0_ k_ ∨ w.heap.size ≤ k_)) (.slice (some ad170) x4_1.length co15) x4_1) ∧ Aside0 (Kd.N k32 32 w' w.heap.size (fun k_ => (P0_ k_ ∨ w.heap.size ≤ k_)) (.slice (some ad170) x4_1.length co15) x4_1) ∧ Aside0 (Below w.heap.size w w'))
            case atStart => exact ⟨((rd_T32 x4_1 0).f1), (0), (by first | rfl | (simp; done) | (simp [*]; done)), (by first | rfl | (simp; done) | (simp [*]; done)), H', ⟨Nat.le_refl _⟩, ⟨by (with_reducible repeat (first | apply Kd.N_alloc | apply Kd.N_drewN | apply Kd.N_drew)); exact HO_4.out⟩, ⟨by (with_reducible repeat (first | apply Kd.N_alloc | apply Kd.N_drewN | apply Kd.N_drew)); exact HO_4.out⟩, ⟨by repeat (first | (with_reducible first | exact HB.out | apply below_alloc | apply pw_below_drewN | apply below_drew1) | exact HB.out)⟩⟩
            case round =>
              clear H'
              try clear c1
              try clear p1
              try clear q1
              try clear hx1
              try clear qi1
              try clear p2
              try clear c4
              try clear c5
              try clear c6
              try clear c8
              try clear c12
              try clear c12b0
              try clear c12b1
              try clear c12b2
              try clear c14
              try clear c14b0
              try clear c14b1
              try clear hx170_0
              try clear hx170_1
              try clear p170
              try clear p2
              try clear q170
              obtain ⟨x7_2, x40_2, rfl, rfl, HA, HK2, HO_4, HO_38, HB⟩ := hrel
              cases gk with
              | zero => exact absurd HA.out (by simp [hushref2_Tidy.l1])
              | succ k2 =>
                have H := HA.out
                clear HA
                simp only [hushref2_Tidy.l1] at H
                by_cases c16 : x40_2 < (x4_1.length : Int)
                · rw [if_pos c16] at H
                  have c16b0 : decide (x40_2 < (x4_1.length : Int)) = true := decide_eq_true c16
                  clear c16
                  by_cases c17 : 0 ≤ x40_2
                  · rw [if_pos c17] at H
                    have c17b0 : decide (0 ≤ x40_2) = true := decide_eq_true c17
                    clear c17
                    by_cases c18 : x40_2 < (x4_1.length : Int)
                    · rw [if_pos c18] at H
                      have c18b0 : decide (x40_2 < (x4_1.length : Int)) = true := decide_eq_true c18
                      clear c18
                      replace H := Option.bind_eq_some_iff.mp H
                      obtain ⟨t173, A190, H⟩ := H
                      replace H : (hushref2_Tidy.l1 k2 x4_1 t173 x4_1 (x4_1.length : Int) (wrap64 (x40_2 + 1))) = some (r1, r2) := H
                      have A19 := Aside0.mk A190
                      clear A190
                      have H' := Aside0.mk H
                      clear H
                      have p171 : 0 ≤ (x40_2 : Int) := of_decide_eq_true (by first | (with_reducible assumption) | assumption)
                      have q171 : x40_2 < (x4_1.length : Int) := of_decide_eq_true (by first | (with_reducible assumption) | assumption)
                      obtain ⟨ad171, A171_0, c171_0, e171, hx171_0, hx171_1, hl171_0, hi171_0⟩ := at_T32 (Kd.N_reads' HO_38.out).2.2 x40_2 p171 q171
                      obtain rfl : ad170 = ad171 := (by injection e171)
                      obtain ⟨ce171, hce171, hMe171, hcc171⟩ := Kd.N_get HO_38.out z32 x40_2 p171 (by first | exact q171 | exact of_decide_eq_true (by first | (with_reducible assumption) | assumption) | (have e_ := (Kd.N_reads' HO_38.out).1; omega))
                      obtain ⟨ua171_0, uc171_0, rfl, ul171_0, ge171_0⟩ := k32_openF hMe171
                      have hv171_0 := hcc171 0 _ rfl
                      rw [Nat.add_zero] at hv171_0
                      replace hv171_0 := Option.some.inj (hv171_0.symm.trans hx171_0)
                      injection hv171_0 with hva_ hvn_ hvc_
                      rw [hva_] at ge171_0
                      rw [hvc_] at ul171_0
                      have HL171_0 := Aside0.mk (show Kd.V (Kd.int .i64) 3 _ w.heap.size _ _ ((rd_T32 x4_1 x40_2).f0) from Kd.V_mk ul171_0 ge171_0)
                      clear hva_ hvn_ hvc_ ge171_0 ul171_0
                      clear hcc171 hce171
                      have HR171_0 := Aside0.mk hi171_0
                      have HC171_0 := Aside0.mk hl171_0
                      clear hi171_0 hl171_0
                      replace p171 := eq_true p171
                      replace q171 := eq_true q171
                      go_wp2_with (first | ((with_reducible refine gate_dst (N := 9) rfl ?_); (try (refine gate_guard (by rfl) ?_; dsimp only)); refine box_event ?hg (N := 9) ?hd (cs := #[.slice none 0 0, .int .i64 0]) (t := 32) ?hr ?_; (case hd => rfl); (case hg => rfl); (case hr => first | (go_simp; done) | (go_simp; rfl)); intro gb172 hg w20 hbox hb; have n0_ := Aside0.mk (Kd.N_below (Kd.N_elderB (by (with_reducible repeat (first | apply Kd.N_alloc | apply Kd.N_drewN | apply Kd.N_drew)); exact HO_4.out) gb172 (Nat.le_of_eq hg.symm)) hb); have n1_ := Aside0.mk (Kd.N_below (Kd.N_elderB (by (with_reducible repeat (first | apply Kd.N_alloc | apply Kd.N_drewN | apply Kd.N_drew)); exact HO_38.out) gb172 (Nat.le_of_eq hg.symm)) hb); have n2_ := Aside0.mk (Kd.V_below (Kd.V_elderB (by (with_reducible repeat (first | apply Kd.V_alloc | apply Kd.V_drewN | apply Kd.V_drew)); exact HL171_0.out) gb172 (Nat.le_of_eq hg.symm)) hb); have n3_ := Aside0.mk (Kd.C_below (by repeat (first | (with_reducible exact HR171_0.out) | (with_reducible refine Kd.C_alloc ?_ _) | (with_reducible refine Kd.C_drewN ?_ _) | (with_reducible refine Kd.C_drew ?_) | exact HR171_0.out)) hb); have n4_ := Aside0.mk (below_step (by repeat (first | (with_reducible first | exact HB.out | apply below_alloc | apply pw_below_drewN | apply below_drew1) | exact HB.out)) hb); have n5_ := Aside0.mk (hbox); have n6_ := Aside0.mk ((by rw [hg]; exact (below_size (by repeat (first | (with_reducible first | exact HB.out | apply below_alloc | apply pw_below_drewN | apply below_drew1) | exact HB.out))) : w.heap.size ≤ gb172)); have n7_ := Aside0.mk ((by rw [hg]; exact (below_size (by repeat (first | (with_reducible first | exact HB.out | apply below_alloc | apply pw_below_drewN | apply below_drew1) | exact HB.out))) : w.heap.size ≤ gb172)); clear HO_4; clear HO_38; clear HL171_0; clear HR171_0; clear HB; have HO_4 := n0_; have HO_38 := n1_; have HL171_0 := n2_; have HR171_0 := n3_; have HB := n4_; have BK172 := n5_; have GW172 := n6_; have GE172 := n7_; clear n0_ n1_ n2_ n3_ n4_ n5_ n6_ n7_; clear hb hbox hg; have hcz21_0 : w20.cell? ⟨gb172, 0, none⟩ = some (.slice none 0 0) := (blk_cell BK172.out 0).trans rfl; have hcz21_1 : w20.cell? ⟨gb172, 1, none⟩ = some (.int .i64 0) := (blk_cell BK172.out 1).trans rfl; have hfz21_0 := blk_frozen BK172.out 0; have hfz21_1 := blk_frozen BK172.out 1) | ((with_reducible refine gate_callee (f := 53) rfl ?_); refine goesL_ (some 47) rfl rfl Try.func53 (by kernel_rfl) rfl #[.int .i64 ((rd_T32 x4_1 x40_2).f1), .int .i64 x7_2] rfl (by (try simp only [List.map_toArray, List.map_cons, List.map_nil]); first | done | rfl | (simp only [List.length_drop, List.length_take]; rfl)) ?_; (with_reducible refine (hushref1_Divisor.calls k2 ((rd_T32 x4_1 x40_2).f1) x7_2 t173 _ A19.out).mono ?_); rintro e w' ⟨rfl, ⟨nd, rfl⟩⟩; refine ⟨_, rfl, ?_⟩))
                      go_roundg k2
                      case measure => have := HK1.out; have := HK2.out; omega
                      case rel => exact ⟨(t173), (wrap64 (x40_2 + 1)), (by first | rfl | (simp; done) | (simp [*]; done)), (by first | rfl | (simp; done) | (simp [*]; done)), H', ⟨by have := HK1.out; have := HK2.out; omega⟩, ⟨by (with_reducible repeat (first | apply Kd.N_alloc | apply Kd.N_drewN | apply Kd.N_drew)); exact Kd.N_mono (Kd.N_far (p := ⟨gb172, 1, none⟩) (Kd.N_far (p := ⟨gb172, 0, none⟩) (Kd.N_mono HO_4.out (fun k_ hk => (⟨hk, hk.2⟩ : _ ∧ k_ ≠ gb172))) (fun _ hk => hk.2) (.slice A171_0 ((rd_T32 x4_1 x40_2).f0).length c171_0)) (fun _ hk => hk.2) (.int .i64 ((rd_T32 x4_1 x40_2).f1))) (fun _ hk => hk.1.1)⟩, ⟨by (with_reducible repeat (first | apply Kd.N_alloc | apply Kd.N_drewN | apply Kd.N_drew)); exact Kd.N_mono (Kd.N_far (p := ⟨gb172, 1, none⟩) (Kd.N_far (p := ⟨gb172, 0, none⟩) (Kd.N_mono HO_38.out (fun k_ hk => (⟨hk, hk.2⟩ : _ ∧ k_ ≠ gb172))) (fun _ hk => hk.2) (.slice A171_0 ((rd_T32 x4_1 x40_2).f0).length c171_0)) (fun _ hk => hk.2) (.int .i64 ((rd_T32 x4_1 x40_2).f1))) (fun _ hk => hk.1.1)⟩, ⟨by repeat (first | (with_reducible first | exact HB.out | apply below_alloc | apply pw_below_drewN | apply below_drew1 | refine below_set ?_ GE172.out) | exact HB.out)⟩⟩
                    · rw [if_neg c18] at H
                      exact absurd H (by simp)
                  · rw [if_neg c17] at H
                    exact absurd H (by simp)
                · rw [if_neg c16] at H
                  have c16b0 : decide (x40_2 < (x4_1.length : Int)) = false := decide_eq_false c16
                  clear c16
                  have HC22 := Aside0.mk H
                  clear H
                  go_upto_region 14 with (fail)
                  go_cut [58] (fun v58 wc => ∃ (kq : Nat) (x58_21 : Bool), v58 = .bool x58_21 ∧ Aside0 (hushref2_Tidy.j2 kq x4_1 x7_2 x58_21 = some (r1, r2)) ∧ Aside0 (kq ≤ k2) ∧ Aside0 (Kd.N k32 32 wc w.heap.size (fun k_ => (P0_ k_ ∨ w.heap.size ≤ k_)) (.slice (some ad170) x4_1.length co15) x4_1) ∧ Aside0 (Below w.heap.size w wc))
                  case first =>
                    have H := HC22.out
                    clear HC22
                    replace H := Option.bind_eq_some_iff.mp H
                    obtain ⟨t174, A230, H⟩ := H
                    replace H : (if x7_2 = 0 then (none) else (if (wrap64 (Int.tdiv t174 x7_2)) > 1073741824 then (hushref2_Tidy.j2 k2 x4_1 x7_2 true) else (hushref2_Tidy.j2 k2 x4_1 x7_2 (decide ((x4_1.length : Int) > 4096))))) = some (r1, r2) := H
                    have A23 := Aside0.mk A230
                    clear A230
                    by_cases c24 : x7_2 = 0
                    · rw [if_pos c24] at H
                      exact absurd H (by simp)
                    · rw [if_neg c24] at H
                      have c24b0 : (x7_2 == 0) = false := beq_eq_false_iff_ne.mpr c24
                      have c24b1 : (x7_2 != 0) = true := bne_iff_ne.mpr c24
                      (first | rw [c24b0] | (simp only [i64_w, i32_w]; rw [c24b0]) | skip)
                      by_cases c25 : (wrap64 (Int.tdiv t174 x7_2)) > 1073741824
                      · rw [if_pos c25] at H
                        have c25b0 : decide (1073741824 < (wrap64 (Int.tdiv t174 x7_2))) = true := decide_eq_true c25
                        clear c25
                        have H' := Aside0.mk H
                        clear H
                        go_wp2_with (first | ((with_reducible refine gate_callee (f := 51) rfl ?_); refine goesL_ (some 50) rfl rfl Try.func51 (by kernel_rfl) rfl #[.slice (some ad170) x4_1.length co15] rfl (by (try simp only [List.map_toArray, List.map_cons, List.map_nil]); first | done | rfl | (simp only [List.length_drop, List.length_take]; rfl)) ?_; (with_reducible refine (hushref2_Total.calls k2 _ _ x4_1 t174 _ ?side1 ?side2 A23.out).mono ?_); (case side1 => repeat (first | exact (Kd.N_reads' HO_4.out).2.2 | (with_reducible refine Kd.C_alloc ?_ _) | (with_reducible refine Kd.C_drewN ?_ _) | (with_reducible refine Kd.C_drew ?_))); (case side2 => exact (Kd.N_reads' HO_4.out).2.1); rintro e w26 ⟨rfl, hb⟩; refine ⟨_, rfl, ?_⟩; have n0_ := Aside0.mk (Kd.N_below (by (with_reducible repeat (first | apply Kd.N_alloc | apply Kd.N_drewN | apply Kd.N_drew)); exact HO_4.out) hb); have n1_ := Aside0.mk (Kd.N_below (by (with_reducible repeat (first | apply Kd.N_alloc | apply Kd.N_drewN | apply Kd.N_drew)); exact HO_38.out) hb); have n2_ := Aside0.mk (below_step (by repeat (first | (with_reducible first | exact HB.out | apply below_alloc | apply pw_below_drewN | apply below_drew1) | exact HB.out)) hb); clear HO_4; clear HO_38; clear HB; have HO_4 := n0_; have HO_38 := n1_; have HB := n2_; clear n0_ n1_ n2_; (try clear hb); (try clear hb2); (try clear hk); (try clear hi)))
                        go_meet
                        case rel => exact ⟨_, (true), (by first | rfl | (simp; done) | (simp [*]; done)), H', ⟨by have := HK1.out; have := HK2.out; first | omega | exact Nat.le_refl _⟩, ⟨by (with_reducible repeat (first | apply Kd.N_alloc | apply Kd.N_drewN | apply Kd.N_drew)); exact HO_4.out⟩, ⟨by repeat (first | (with_reducible first | exact HB.out | apply below_alloc | apply pw_below_drewN | apply below_drew1) | exact HB.out)⟩⟩
                      · rw [if_neg c25] at H
                        have c25b0 : decide (1073741824 < (wrap64 (Int.tdiv t174 x7_2))) = false := decide_eq_false c25
                        clear c25
                        have H' := Aside0.mk H
                        clear H
                        go_wp2_with (first | ((with_reducible refine gate_callee (f := 51) rfl ?_); refine goesL_ (some 50) rfl rfl Try.func51 (by kernel_rfl) rfl #[.slice (some ad170) x4_1.length co15] rfl (by (try simp only [List.map_toArray, List.map_cons, List.map_nil]); first | done | rfl | (simp only [List.length_drop, List.length_take]; rfl)) ?_; (with_reducible refine (hushref2_Total.calls k2 _ _ x4_1 t174 _ ?side1 ?side2 A23.out).mono ?_); (case side1 => repeat (first | exact (Kd.N_reads' HO_4.out).2.2 | (with_reducible refine Kd.C_alloc ?_ _) | (with_reducible refine Kd.C_drewN ?_ _) | (with_reducible refine Kd.C_drew ?_))); (case side2 => exact (Kd.N_reads' HO_4.out).2.1); rintro e w27 ⟨rfl, hb⟩; refine ⟨_, rfl, ?_⟩; have n0_ := Aside0.mk (Kd.N_below (by (with_reducible repeat (first | apply Kd.N_alloc | apply Kd.N_drewN | apply Kd.N_drew)); exact HO_4.out) hb); have n1_ := Aside0.mk (Kd.N_below (by (with_reducible repeat (first | apply Kd.N_alloc | apply Kd.N_drewN | apply Kd.N_drew)); exact HO_38.out) hb); have n2_ := Aside0.mk (below_step (by repeat (first | (with_reducible first | exact HB.out | apply below_alloc | apply pw_below_drewN | apply below_drew1) | exact HB.out)) hb); clear HO_4; clear HO_38; clear HB; have HO_4 := n0_; have HO_38 := n1_; have HB := n2_; clear n0_ n1_ n2_; (try clear hb); (try clear hb2); (try clear hk); (try clear hi)))
                        go_meet
                        case rel => exact ⟨_, (decide ((x4_1.length : Int) > 4096)), (by first | rfl | (simp; done) | (simp [*]; done)), H', ⟨by have := HK1.out; have := HK2.out; first | omega | exact Nat.le_refl _⟩, ⟨by (with_reducible repeat (first | apply Kd.N_alloc | apply Kd.N_drewN | apply Kd.N_drew)); exact HO_4.out⟩, ⟨by repeat (first | (with_reducible first | exact HB.out | apply below_alloc | apply pw_below_drewN | apply below_drew1) | exact HB.out)⟩⟩
                  case rest =>
                    clear HC22
                    try clear c1
                    try clear p1
                    try clear q1
                    try clear hx1
                    try clear qi1
                    try clear c2
                    try clear p2
                    try clear c4
                    try clear c5
                    try clear c6
                    try clear p6
                    try clear c8
                    try clear c12
                    try clear c12b0
                    try clear c12b1
                    try clear c12b2
                    try clear c14
                    try clear c14b0
                    try clear c14b1
                    try clear c16
                    try clear c16b0
                    try clear c17
                    try clear c17b0
                    try clear p17
                    try clear q17
                    try clear hx17
                    try clear qi17
                    try clear c18
                    try clear c18b0
                    try clear c24
                    try clear c24b0
                    try clear c24b1
                    try clear c25
                    try clear c25b0
                    try clear hcz21_0
                    try clear hcz21_1
                    try clear hfz21_0
                    try clear hfz21_1
                    try clear hx170_0
                    try clear hx170_1
                    try clear hx171_0
                    try clear hx171_1
                    try clear p1
                    try clear p170
                    try clear p171
                    try clear p2
                    try clear q1
                    try clear q170
                    try clear q171
                    obtain ⟨kq, x58_21, rfl, HA, HJ21, HO_4, HB⟩ := hcut
                    cases kq with
                    | zero => exact absurd HA.out (by simp [hushref2_Tidy.j2])
                    | succ kj21 =>
                      have H := HA.out
                      clear HA
                      simp only [hushref2_Tidy.j2] at H
                      by_cases c28 : x58_21 = true
                      · subst c28
                        have H1 : (some (([] : List (S32)), 4)) = some (r1, r2) := by rw [if_pos rfl] at H; exact H
                        clear H
                        have H := H1
                        clear H1
                        simp only [Option.some.injEq, Prod.mk.injEq] at H
                        obtain ⟨rfl, rfl⟩ := H
                        go_wp2
                        go_ret2
                        exact ⟨_, by first | rfl | (simp [errW_none, errW_some] <;> rfl) | (simp [*, errW_none, errW_some] <;> rfl), by first | exact Kd.S_nil _ _ _ _ _ | exact Kd.N_nil _ _ _ _ _ | exact Kd.V_nil _ _ _ _ _ | exact Kd.Q_nil _ _ _ _ _ | exact Kd.R_nil _ _ _ _ _, by repeat (first | (with_reducible first | exact HB.out | apply below_alloc | apply pw_below_drewN | apply below_drew1) | exact HB.out)⟩
                      · replace c28 := Bool.eq_false_iff.mpr c28
                        subst c28
                        have H1 : (hushref2_Tidy.l2 kj21 x4_1 x7_2 (x4_1.length : Int) 0) = some (r1, r2) := by rw [if_neg (show ¬ (false = true) by decide)] at H; exact H
                        clear H
                        have H := H1
                        clear H1
                        have H' := Aside0.mk H
                        clear H
                        go_wp2
                        go_loopg [61] kj21 (fun kq v61 w' => ∃ (x4_4 : List (S32)) (x61_4 : Int), v61 = .int .i64 x61_4 ∧ Aside0 (hushref2_Tidy.l2 kq x4_4 x7_2 (x4_1.length : Int) x61_4 = some (r1, r2)) ∧ Aside0 (kq ≤ kj21) ∧ Aside0 (Kd.N k32 32 w' w.heap.size (fun k_ => (P0_ k_ ∨ w.heap.size ≤ k_)) (.slice (some ad170) x4_1.length co15) x4_4) ∧ Aside0 (Below w.heap.size w w'))
                        case atStart => exact ⟨(x4_1), (0), (by first | rfl | (simp; done) | (simp [*]; done)), H', ⟨Nat.le_refl _⟩, ⟨by (with_reducible repeat (first | apply Kd.N_alloc | apply Kd.N_drewN | apply Kd.N_drew)); exact HO_4.out⟩, ⟨by repeat (first | (with_reducible first | exact HB.out | apply below_alloc | apply pw_below_drewN | apply below_drew1) | exact HB.out)⟩⟩
                        case round =>
                          clear H'
                          try clear c1
                          try clear p1
                          try clear q1
                          try clear hx1
                          try clear qi1
                          try clear c2
                          try clear p2
                          try clear c4
                          try clear c5
                          try clear c6
                          try clear p6
                          try clear c8
                          try clear c12
                          try clear c12b0
                          try clear c12b1
                          try clear c12b2
                          try clear c14
                          try clear c14b0
                          try clear c14b1
                          try clear c16
                          try clear c16b0
                          try clear c17
                          try clear c17b0
                          try clear p17
                          try clear q17
                          try clear hx17
                          try clear qi17
                          try clear c18
                          try clear c18b0
                          try clear c24
                          try clear c24b0
                          try clear c24b1
                          try clear c25
                          try clear c25b0
                          try clear c28
                          try clear hcz21_0
                          try clear hcz21_1
                          try clear hfz21_0
                          try clear hfz21_1
                          try clear hx170_0
                          try clear hx170_1
                          try clear hx171_0
                          try clear hx171_1
                          try clear p1
                          try clear p17
                          try clear p170
                          try clear p171
                          try clear p2
                          try clear p6
                          try clear q1
                          try clear q17
                          try clear q170
                          try clear q171
                          obtain ⟨x4_4, x61_4, rfl, HA, HK4, HO_4, HB⟩ := hrel
                          have hl4_4 := (Kd.N_reads' HO_4.out).1
                          rw [hl4_4] at HO_4
                          (try simp only [hl4_4])
                          cases gk with
                          | zero => exact absurd HA.out (by simp [hushref2_Tidy.l2])
                          | succ k4 =>
                            have H := HA.out
                            clear HA
                            simp only [hushref2_Tidy.l2] at H
                            by_cases c29 : x61_4 < (x4_1.length : Int)
                            · rw [if_pos c29] at H
                              have c29b0 : decide (x61_4 < (x4_1.length : Int)) = true := decide_eq_true c29
                              clear c29
                              by_cases c30 : 0 ≤ x61_4
                              · rw [if_pos c30] at H
                                have c30b0 : decide (0 ≤ x61_4) = true := decide_eq_true c30
                                clear c30
                                by_cases c31 : x61_4 < (x4_4.length : Int)
                                · rw [if_pos c31] at H
                                  have c31b0 : decide (x61_4 < (x4_4.length : Int)) = true := decide_eq_true c31
                                  clear c31
                                  by_cases c32 : x7_2 = 0
                                  · rw [if_pos c32] at H
                                    exact absurd H (by simp)
                                  · rw [if_neg c32] at H
                                    have c32b0 : (x7_2 == 0) = false := beq_eq_false_iff_ne.mpr c32
                                    have c32b1 : (x7_2 != 0) = true := bne_iff_ne.mpr c32
                                    obtain ⟨y176, hy176⟩ : ∃ y_ : List (S32), y_ = (x4_4.set (x61_4 : Int).toNat (⟨(rd_T32 x4_4 x61_4).f0, wrap64 (Int.tdiv ((rd_T32 x4_4 x61_4).f1) x7_2)⟩ : S32)) := ⟨_, rfl⟩
                                    replace H : (hushref2_Tidy.l2 k4 y176 x7_2 (x4_1.length : Int) (wrap64 (x61_4 + 1))) = some (r1, r2) := by first | (rw [hy176]; with_reducible exact H) | (have H2_ := (Option.bind_some _ _).symm.trans H; rw [hy176]; with_reducible exact H2_) | (have H2_ := (Option.bind_some _ _).symm.trans H; with_reducible exact H2_) | with_reducible exact H | (rw [hy176]; exact H) | exact H
                                    have Ny176 := Aside0.mk hy176
                                    clear hy176
                                    have H' := Aside0.mk H
                                    clear H
                                    have p175 : 0 ≤ (x61_4 : Int) := of_decide_eq_true (by first | (with_reducible assumption) | assumption)
                                    have q175 : x61_4 < (x4_4.length : Int) := of_decide_eq_true (by first | (with_reducible assumption) | assumption)
                                    obtain ⟨ad175, A175_0, c175_0, e175, hx175_0, hx175_1, hl175_0, hi175_0⟩ := at_T32 (Kd.N_reads' HO_4.out).2.2 x61_4 p175 q175
                                    obtain rfl : ad170 = ad175 := (by injection e175)
                                    obtain ⟨ce175, hce175, hMe175, hcc175⟩ := Kd.N_get HO_4.out z32 x61_4 p175 (by first | exact q175 | exact of_decide_eq_true (by first | (with_reducible assumption) | assumption) | (have e_ := (Kd.N_reads' HO_4.out).1; omega))
                                    obtain ⟨ua175_0, uc175_0, rfl, ul175_0, ge175_0⟩ := k32_openF hMe175
                                    have hv175_0 := hcc175 0 _ rfl
                                    rw [Nat.add_zero] at hv175_0
                                    replace hv175_0 := Option.some.inj (hv175_0.symm.trans hx175_0)
                                    injection hv175_0 with hva_ hvn_ hvc_
                                    rw [hva_] at ge175_0
                                    rw [hvc_] at ul175_0
                                    have HL175_0 := Aside0.mk (show Kd.V (Kd.int .i64) 3 _ w.heap.size _ _ ((rd_T32 x4_4 x61_4).f0) from Kd.V_mk ul175_0 ge175_0)
                                    clear hva_ hvn_ hvc_ ge175_0 ul175_0
                                    clear hcc175 hce175
                                    have HR175_0 := Aside0.mk hi175_0
                                    have HC175_0 := Aside0.mk hl175_0
                                    clear hi175_0 hl175_0
                                    replace p175 := eq_true p175
                                    replace q175 := eq_true q175
                                    have p33 : 0 ≤ (x61_4 : Int) := of_decide_eq_true (by first | (with_reducible assumption) | assumption)
                                    have q33 : (x61_4 : Int) < ((x4_4.length : Int) : Int) := of_decide_eq_true (by first | (with_reducible assumption) | assumption)
                                    obtain ⟨go33, co33, eo33, gb33, gl33, cl33, HG33⟩ := Kd.N_form HO_4.out (by omega)
                                    (first | cases eo33 | (injection eo33 with ea_ en_ ec_; (first | subst ea_ | (injection ea_ with ea_; subst ea_)); subst ec_; clear en_))
                                    have GB33 := Aside0.mk gb33
                                    have GG33 := Aside0.mk HG33
                                    clear gb33 gl33 HG33
                                    (first | simp only [add_plain] at hx170_0 | skip)
                                    (first | simp only [add_plain] at hx170_1 | skip)
                                    (first | simp only [add_plain] at hx171_0 | skip)
                                    (first | simp only [add_plain] at hx171_1 | skip)
                                    (first | simp only [add_plain] at hx175_0 | skip)
                                    (first | simp only [add_plain] at hx175_1 | skip)
                                    obtain ⟨ce33, hcl33, hM33, hcc33, hfr33⟩ := Kd.N_elem HO_4.out z32 (x61_4 : Int) p33 q33
                                    obtain ⟨ua33_0, uc33_0, rfl, ul33_0, ge33_0⟩ := k32_openF hM33
                                    have hx33_0 : wr.cell? ⟨go33, (x61_4 : Int).toNat * 2, none⟩ = some (.slice ua33_0 ((rd_T32 x4_4 x61_4).f0).length uc33_0) := hcc33 0 _ rfl
                                    have hx33_1 : wr.cell? ⟨go33, (x61_4 : Int).toNat * 2 + 1, none⟩ = some (.int .i64 ((rd_T32 x4_4 x61_4).f1)) := hcc33 1 _ rfl
                                    have hf33_0 : wr.frozen? ⟨go33, (x61_4 : Int).toNat * 2, none⟩ = false := hfr33 0
                                    have hf33_1 : wr.frozen? ⟨go33, (x61_4 : Int).toNat * 2 + 1, none⟩ = false := hfr33 1
                                    clear hcl33 hcc33 hfr33 hM33
                                    replace p33 := eq_true p33
                                    replace q33 := eq_true q33
                                    have HX34 := Aside0.mk (show Kd.N k32 32 wr w.heap.size (fun k_ => (P0_ k_ ∨ w.heap.size ≤ k_)) (.slice (some ⟨go33, 0, none⟩) x4_4.length co15) x4_4 from (by (with_reducible repeat (first | apply Kd.N_alloc | apply Kd.N_drewN | apply Kd.N_drew)); exact HO_4.out))
                                    obtain ⟨ce34, hcl34, hM34, hcc34, hfr34⟩ := Kd.N_elem HX34.out z32 (x61_4 : Int) (of_decide_eq_true (by first | (with_reducible assumption) | assumption)) (by have h_ : (x61_4 : Int) < ((x4_4.length : Int) : Int) := of_decide_eq_true (by first | (with_reducible assumption) | assumption); first | exact h_ | (have e_ := (Kd.N_reads' HO_4.out).1; omega) | simpa using h_)
                                    obtain ⟨ua34_0, uc34_0, rfl, ul34_0, ge34_0⟩ := k32_openF hM34
                                    have HP34 := Kd.N_seg HX34.out (x61_4 : Int) (of_decide_eq_true (by first | (with_reducible assumption) | assumption)) (by have h_ : (x61_4 : Int) < ((x4_4.length : Int) : Int) := of_decide_eq_true (by first | (with_reducible assumption) | assumption); first | exact h_ | (have e_ := (Kd.N_reads' HO_4.out).1; omega) | simpa using h_) (seg := [.int .i64 (wrap64 (Int.tdiv ((rd_T32 x4_4 x61_4).f1) x7_2))]) (j := 1) hcl34 hcc34 (show 2 ≤ 2 from by decide) (x' := (⟨(rd_T32 x4_4 x61_4).f0, wrap64 (Int.tdiv ((rd_T32 x4_4 x61_4).f1) x7_2)⟩ : S32)) (k32_mkF _ _ (⟨(rd_T32 x4_4 x61_4).f0, wrap64 (Int.tdiv ((rd_T32 x4_4 x61_4).f1) x7_2)⟩ : S32) ul34_0 ge34_0) (fun _ hk => hk)
                                    have hx34_1 := hcc34 1 _ rfl
                                    (try simp only [show (k32).sz = 2 from rfl, Nat.mul_one, Nat.add_zero] at hx34_1)
                                    have hf34_1 := hfr34 1
                                    (try simp only [show (k32).sz = 2 from rfl, Nat.mul_one, Nat.add_zero] at hf34_1)
                                    clear hcl34 hcc34 hfr34 hM34
                                    go_wp2_with (first | ((with_reducible refine gate_store (t := 3) (p := 74) rfl ?_); refine store_event (t := 3) (p := 74) (v := ?vo_w35) (w1 := (wr.setCell ⟨go33, (x61_4 : Int).toNat * 2 + 1, none⟩ (.int .i64 (wrap64 (Int.tdiv ((rd_T32 x4_4 x61_4).f1) x7_2))))) ?hg ?ho ?hn ?hr ?_; (case ho => rfl); (case hg => rfl); (case hn => rfl); (case hr => first | (go_simp; done) | (go_simp; rfl)); intro w35 hw; have hg : wr.grownBy w35 (some go33) := (by rw [hw]; exact HP34.2); have hp_ : Kd.N k32 32 w35 w.heap.size (fun k_ => (P0_ k_ ∨ w.heap.size ≤ k_)) (.slice (some ⟨go33, 0, none⟩) x4_4.length co15) y176 := (by rw [hw, Ny176.out]; exact HP34.1); clear HP34; have n0_ := Aside0.mk (hp_); have n1_ := Aside0.mk (Kd.V_afterv (v := (.slice (some ⟨go33, 0, none⟩) x4_4.length co15)) (v1 := (.slice (some ⟨go33, 0, none⟩) x4_4.length co15)) (ok := (fun k_ => (P0_ k_ ∨ w.heap.size ≤ k_))) (by (with_reducible repeat (first | apply Kd.V_alloc | apply Kd.V_drewN | apply Kd.V_drew)); exact HL175_0.out) hg (.inl rfl)); have n2_ := Aside0.mk ((by rw [hw]; exact below_set (HB.out) GB33.out : Below w.heap.size w w35)); clear HO_4; clear HL175_0; clear HB; have HO_4 := n0_; have HL175_0 := n1_; have HB := n2_; clear n0_ n1_ n2_; clear hg hw hp_))
                                    (try simp only [← hl4_4])
                                    go_roundg k4
                                    case measure => have := HK1.out; have := HK2.out; have := HJ21.out; have := HK4.out; omega
                                    case rel => exact ⟨(y176), (wrap64 (x61_4 + 1)), (by first | rfl | (simp; done) | (simp [*]; done)), H', ⟨by have := HK1.out; have := HK2.out; have := HJ21.out; have := HK4.out; omega⟩, ⟨by (try simp only [hl4_4]); (with_reducible repeat (first | apply Kd.N_alloc | apply Kd.N_drewN | apply Kd.N_drew)); exact HO_4.out⟩, ⟨by repeat (first | (with_reducible first | exact HB.out | apply below_alloc | apply pw_below_drewN | apply below_drew1) | exact HB.out)⟩⟩
                                · rw [if_neg c31] at H
                                  exact absurd H (by simp)
                              · rw [if_neg c30] at H
                                exact absurd H (by simp)
                            · rw [if_neg c29] at H
                              have c29b0 : decide (x61_4 < (x4_1.length : Int)) = false := decide_eq_false c29
                              rw [hl4_4] at c29b0
                              clear c29
                              simp only [Option.some.injEq, Prod.mk.injEq] at H
                              obtain ⟨rfl, rfl⟩ := H
                              go_wp2
                              go_ret2
                              exact ⟨_, by first | rfl | (simp [errW_none, errW_some] <;> rfl) | (simp [*, errW_none, errW_some] <;> rfl), by (with_reducible repeat (first | apply Kd.N_alloc | apply Kd.N_drewN | apply Kd.N_drew)); exact HO_4.out, by repeat (first | (with_reducible first | exact HB.out | apply below_alloc | apply pw_below_drewN | apply below_drew1) | exact HB.out)⟩
          · rw [if_neg c14] at H
            exact absurd H (by simp)

end Go.Proofs.Ytkemhfhmlcljjaa.PD

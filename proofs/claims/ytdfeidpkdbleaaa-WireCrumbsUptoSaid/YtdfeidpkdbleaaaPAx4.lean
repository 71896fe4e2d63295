/- Functions of the translated program as Lean functions, and what their calls come to: written by this session's own program (wip/xprint.py) over the kit's print. Conditions stand in each theorem. -/
import Derived.Test.YtdfeidpkdbleaaaPAx0
import Derived.Test.YtdfeidpkdbleaaaPAx2
import Derived.Test.YtdfeidpkdbleaaaPAx3
namespace Go.Proofs.Ytdfeidpkdbleaaa.PA
open Go.RowKit Go.Proofs.YtdfeidpkdbleaaaW.PrintWords Go.Proofs.YtdfeidpkdbleaaaW.PrintLast Go.Proofs.YtdfeidpkdbleaaaW.PrintMore
attribute [local go_sem] max2_int min2_int max_two min_two max_three min_three max_four min_four   -- for this text's walks alone
set_option linter.unusedVariables false
set_option linter.unusedSimpArgs false

/-! ### plain_Crumbs: function 7 -/
def plain_Crumbs.l0 : Nat → List (S27) → List ByteArray → Int → Int → ByteArray → Bool → Option ((List (S27)))
  | 0, _, _, _, _, _, _ => none
  | k + 1, x4, x10, x11, x12, x108000, x108001 => if x12 < x11 then (if 0 ≤ x12 then (if x12 < (x10.length : Int) then ((wire_Stream_Feed.f k x108000 x108001 (rdOf ByteArray.empty x10 x12)).bind fun bt109 => (if x4.length < 4398046511104 then (plain_Crumbs.l0 k (x4 ++ [(⟨bt109.1, bt109.2.1⟩ : S27)]) x10 x11 (wrap64 (x12 + 1)) bt109.2.2.1 bt109.2.2.2) else (none))) else (none)) else (none)) else (some x4)
def plain_Crumbs.f (k : Nat) (l0 : List ByteArray) : Option ((List (S27))) := (wire_NewStream.f).bind fun bt105 => (plain_Crumbs.l0 k ([] : List (S27)) l0 (l0.length : Int) 0 bt105.1 bt105.2)
theorem plain_Crumbs.mono_l : ∀ k, (∀ y0 y1 y2 y3 y4 y5, LeO (plain_Crumbs.l0 k y0 y1 y2 y3 y4 y5) (plain_Crumbs.l0 (k + 1) y0 y1 y2 y3 y4 y5))
  | 0 => fun _ _ _ _ _ _ r h => by simp [plain_Crumbs.l0] at h
  | k + 1 => by
    have ih0 := plain_Crumbs.mono_l k
    · intro y0 y1 y2 y3 y4 y5
      unfold plain_Crumbs.l0
      repeat' first
      | (with_reducible exact ih0 _ _ _ _ _ _)
      | (with_reducible exact wire_Stream_Feed.mono _ _ _ _)
      | (with_reducible exact LeO.refl _)
      | (with_reducible exact LeO.none _)
      | (with_reducible refine LeO.ite ?_ ?_)
      | (with_reducible refine LeO.bind ?_ (fun _ => ?_))
      | exact ih0 _ _ _ _ _ _
      | exact wire_Stream_Feed.mono _ _ _ _
      | exact LeO.none _
      | refine LeO.ite ?_ ?_
      | refine LeO.bind ?_ (fun _ => ?_)
theorem plain_Crumbs.mono : ∀ a0 k, LeO (plain_Crumbs.f k a0) (plain_Crumbs.f (k + 1) a0) := by
  intro a0 k
  have ih0 := plain_Crumbs.mono_l k
  unfold plain_Crumbs.f
  repeat' first
      | (with_reducible exact ih0 _ _ _ _ _ _)
      | (with_reducible exact wire_Stream_Feed.mono _ _ _ _)
      | (with_reducible exact LeO.refl _)
      | (with_reducible exact LeO.none _)
      | (with_reducible refine LeO.ite ?_ ?_)
      | (with_reducible refine LeO.bind ?_ (fun _ => ?_))
      | exact ih0 _ _ _ _ _ _
      | exact wire_Stream_Feed.mono _ _ _ _
      | exact LeO.none _
      | refine LeO.ite ?_ ?_
      | refine LeO.bind ?_ (fun _ => ?_)
set_option maxHeartbeats 8000000 in
set_option maxRecDepth 100000 in
theorem plain_Crumbs.calls (k : Nat) (A0 : Option Addr) (c0 : Nat) (l0 : List ByteArray) (r : List (S27)) (w : World) (hr0 : Kd.C Kd.string w A0 l0.length l0) (hc0 : l0.length ≤ c0) (h : plain_Crumbs.f k l0 = some r) :
    Calls Try.prog 7 #[.slice A0 l0.length c0] w fun e w' => ∃ v0_ : Value, e = .returned (v0_) ∧ Kd.S k27 27 w' w.heap.size (fun _ => True) v0_ r ∧ Below w.heap.size w w' := by
  have hu27 := Try.underlying27
  have HR0 := Aside0.mk hr0
  have HC0 := Aside0.mk hc0
  clear hr0 hc0
  have HB := Aside0.mk (Below.refl w.heap.size w)
  have H : ((wire_NewStream.f).bind fun bt105 => (plain_Crumbs.l0 k ([] : List (S27)) l0 (l0.length : Int) 0 bt105.1 bt105.2)) = some r := h
  clear h
  replace H := Option.bind_eq_some_iff.mp H
  obtain ⟨⟨t105, t106⟩, A20, H⟩ := H
  replace H : (plain_Crumbs.l0 k ([] : List (S27)) l0 (l0.length : Int) 0 t105 t106) = some r := H
  have A2 := Aside0.mk A20
  clear A20
  have H' := Aside0.mk H
  clear H
  go_enter Try.func7, Try.ntmps7
  go_wp2_with (first | ((with_reducible refine gate_callee (f := 18) rfl ?_); refine goesL_ (some 9) rfl rfl Try.func18 (by kernel_rfl) rfl #[] rfl (by (try simp only [List.map_toArray, List.map_cons, List.map_nil]); first | done | rfl | (simp only [List.length_drop, List.length_take]; rfl)) ?_; (with_reducible refine (wire_NewStream.calls  t105 t106 w _ ?side1 A2.out).mono ?_); (case side1 => repeat (first | (with_reducible first | exact HB.out | apply below_alloc | apply pw_below_drewN | apply below_drew1) | exact HB.out)); rintro e w3 ⟨g107, rfl, hi, hb, hb2⟩; refine ⟨_, rfl, ?_⟩; have n0_ := Aside0.mk (hb); have n1_ := Aside0.mk (hi); clear HB; have HB := n0_; have HI107 := n1_; clear n0_ n1_; (try clear hb); (try clear hb2); (try clear hk); (try clear hi)))
  go_loopg [4, 12] k (fun kq v4 v12 w' => ∃ (x4_1 : List (S27)) (x12_1 : Int) (x108000_1 : ByteArray) (x108001_1 : Bool), v12 = .int .i64 x12_1 ∧ Aside0 (plain_Crumbs.l0 kq x4_1 l0 (l0.length : Int) x12_1 x108000_1 x108001_1 = some r) ∧ Aside0 (kq ≤ k) ∧ Aside0 (Kd.S k27 27 w' w.heap.size (fun _ => True) v4 x4_1) ∧ Aside0 (IsS86 w w' g107 x108000_1 x108001_1) ∧ Aside0 (Below w.heap.size w w'))
  case atStart => exact ⟨(([] : List (S27))), (0), (t105), (t106), (by first | rfl | (simp; done) | (simp [*]; done)), H', ⟨Nat.le_refl _⟩, ⟨by first | exact Kd.S_nil _ _ _ _ _ | exact Kd.N_nil _ _ _ _ _ | exact Kd.V_nil _ _ _ _ _ | exact Kd.Q_nil _ _ _ _ _ | exact Kd.R_nil _ _ _ _ _⟩, ⟨by repeat (first | (with_reducible first | exact HI107.out | apply IsS86.alloc | apply IsS86.drewN | apply IsS86.drew | apply IsS86.set_0 | apply IsS86.set_1) | exact HI107.out)⟩, ⟨by repeat (first | (with_reducible first | exact HB.out | apply below_alloc | apply pw_below_drewN | apply below_drew1 | refine below_set ?_ (IsS86.ge HI107.out)) | exact HB.out)⟩⟩
  case round =>
    clear H'
    try clear c1
    try clear p2
    obtain ⟨x4_1, x12_1, x108000_1, x108001_1, rfl, HA, HK1, HO_4, HI107, HB⟩ := hrel
    cases gk with
    | zero => exact absurd HA.out (by simp [plain_Crumbs.l0])
    | succ k1 =>
      have H := HA.out
      clear HA
      simp only [plain_Crumbs.l0] at H
      by_cases c4 : x12_1 < (l0.length : Int)
      · rw [if_pos c4] at H
        have c4b0 : decide (x12_1 < (l0.length : Int)) = true := decide_eq_true c4
        clear c4
        by_cases c5 : 0 ≤ x12_1
        · rw [if_pos c5] at H
          have c5b0 : decide (0 ≤ x12_1) = true := decide_eq_true c5
          clear c5
          by_cases c6 : x12_1 < (l0.length : Int)
          · rw [if_pos c6] at H
            have c6b0 : decide (x12_1 < (l0.length : Int)) = true := decide_eq_true c6
            clear c6
            replace H := Option.bind_eq_some_iff.mp H
            obtain ⟨⟨t109, t112, t113, t114⟩, A70, H⟩ := H
            replace H : (if x4_1.length < 4398046511104 then (plain_Crumbs.l0 k1 (x4_1 ++ [(⟨t109, t112⟩ : S27)]) l0 (l0.length : Int) (wrap64 (x12_1 + 1)) t113 t114) else (none)) = some r := H
            have A7 := Aside0.mk A70
            clear A70
            by_cases c8 : x4_1.length < 4398046511104
            · rw [if_pos c8] at H
              have LMc8 := Aside0.mk c8
              clear c8
              obtain ⟨y115, hy115⟩ : ∃ y_ : List (S27), y_ = (x4_1 ++ [(⟨t109, t112⟩ : S27)]) := ⟨_, rfl⟩
              replace H : (plain_Crumbs.l0 k1 y115 l0 (l0.length : Int) (wrap64 (x12_1 + 1)) t113 t114) = some r := by first | (rw [hy115]; with_reducible exact H) | (have H2_ := (Option.bind_some _ _).symm.trans H; rw [hy115]; with_reducible exact H2_) | (have H2_ := (Option.bind_some _ _).symm.trans H; with_reducible exact H2_) | with_reducible exact H | (rw [hy115]; exact H) | exact H
              have Ny115 := Aside0.mk hy115
              clear hy115
              have H' := Aside0.mk H
              clear H
              have p108 : 0 ≤ (x12_1 : Int) := of_decide_eq_true (by first | (with_reducible assumption) | assumption)
              have q108 : x12_1 < (l0.length : Int) := of_decide_eq_true (by first | (with_reducible assumption) | assumption)
              obtain ⟨ad108, e108, hx108_0⟩ := Kd.at_string HR0.out x12_1 p108 q108
              cases e108
              replace hx108_0 := (HB.out.cell (World.block_lt_of_cell? w _ hx108_0)).trans hx108_0
              replace p108 := eq_true p108
              replace q108 := eq_true q108
              go_wp2_with (first | ((with_reducible refine gate_callee (f := 19) rfl ?_); refine goesL_ (some 19) rfl rfl Try.func19 (by kernel_rfl) rfl #[.pointer (some ⟨g107, 0, none⟩), .string (rdOf ByteArray.empty l0 x12_1)] rfl (by (try simp only [List.map_toArray, List.map_cons, List.map_nil]); first | done | rfl | (simp only [List.length_drop, List.length_take]; rfl)) ?_; (with_reducible refine (wire_Stream_Feed.calls k1 g107 x108000_1 x108001_1 (rdOf ByteArray.empty l0 x12_1) t109 t112 t113 t114 w _ ?side1 ?side2 A7.out).mono ?_); (case side1 => repeat (first | (with_reducible first | exact HI107.out | apply IsS86.alloc | apply IsS86.drewN | apply IsS86.drew | apply IsS86.set_0 | apply IsS86.set_1) | exact HI107.out)); (case side2 => repeat (first | (with_reducible first | exact HB.out | apply below_alloc | apply pw_below_drewN | apply below_drew1 | refine below_set ?_ (IsS86.ge HI107.out)) | exact HB.out)); rintro e w9 ⟨v110, rfl, ho0, hi, hb, hk⟩; refine ⟨_, rfl, ?_⟩; have n0_ := Aside0.mk (Kd.S_mono (Kd.S_told (Kd.S_oldK (IsS86.apartS (show IsS86 w _ g107 x108000_1 x108001_1 from by repeat (first | (with_reducible first | exact HI107.out | apply IsS86.alloc | apply IsS86.drewN | apply IsS86.drew | apply IsS86.set_0 | apply IsS86.set_1) | exact HI107.out)) (by (with_reducible repeat (first | apply Kd.S_alloc | apply Kd.S_drewN | apply Kd.S_drew)); exact HO_4.out) (by decide)) hk) (Kd.R_base ho0)) (fun _ h_ => h_.1)); have n1_ := Aside0.mk (Kd.R_lower ho0 (below_size (by repeat (first | (with_reducible first | exact HB.out | apply below_alloc | apply pw_below_drewN | apply below_drew1 | refine below_set ?_ (IsS86.ge HI107.out)) | exact HB.out)))); have n2_ := Aside0.mk (hb); have n3_ := Aside0.mk (hi); clear HO_4; clear HB; clear HI107; have HO_4 := n0_; have HO111 := n1_; have HB := n2_; have HI107 := n3_; clear n0_ n1_ n2_ n3_; (try clear hb); (try clear hb2); (try clear hk); (try clear hi); (try clear ho0); obtain ⟨Ao10, co10, eo10⟩ := Kd.R_slice HO111.out; subst eo10) | ((with_reducible refine gate_builtin (b := .append) (xs := #[.tmp 22, .tmp 26]) rfl ?_); at_builtin; refine Kd.S_append k27 (w0 := w) w.heap.size rfl (.tmp 22) (.tmp 26) 23 27 (.agg #[(.slice none 0 0), (.int .i64 0)]) 32 rfl Try.underlying23 info27 rfl (by decide) (by omega) u4 x4_1 (⟨t109, t112⟩ : S27) [.slice Ao10 t109.length co10, .int .i64 t112] (fun _ => True) (fun k_ => some k_ = (.slice Ao10 t109.length co10 : Value).ownBlock) rfl rfl ?aP (fun k_ hk_ => ((Kd.R_mono (ok' := fun k_ => ((fun _ => True)) k_ ∧ some k_ ≠ (u4 : Value).ownBlock) (Kd.R_apart' (HO111.out) (Kd.S_typed HO_4.out) (by decide)) (fun k_ hk => ⟨trivial, hk.2⟩))).1 k_ hk_.symm) ?aF ?aO ?aB ?aS ?aL ?_; (case aP => exact k27_mkM _ _ _ (⟨t109, t112⟩ : S27) (Kd.R_mono (Kd.R_tight rfl (Kd.R_mono (ok' := fun k_ => ((fun _ => True)) k_ ∧ some k_ ≠ (u4 : Value).ownBlock) (Kd.R_apart' (HO111.out) (Kd.S_typed HO_4.out) (by decide)) (fun k_ hk => ⟨trivial, hk.2⟩))) (fun _ h_ => h_))); (case aB => exact (by repeat (first | (with_reducible first | exact HB.out | apply below_alloc | apply pw_below_drewN | apply below_drew1 | refine below_set ?_ (IsS86.ge HI107.out)) | exact HB.out))); (case aF => exact (fun _ _ => trivial)); (case aO => exact (by (with_reducible repeat (first | apply Kd.S_alloc | apply Kd.S_drewN | apply Kd.S_drew)); exact Kd.S_mono HO_4.out (fun k_ hk => ⟨trivial, fun e_ => hk.2 e_⟩))); (case aS => exact (below_size (by repeat (first | (with_reducible first | exact HB.out | apply below_alloc | apply pw_below_drewN | apply below_drew1 | refine below_set ?_ (IsS86.ge HI107.out)) | exact HB.out)))); (case aL => have := LMc8.out; omega); intro v116 w11 ho hb hg hat; rw [← Ny115.out] at ho; have n0_ := Aside0.mk (IsS86.grown (by repeat (first | (with_reducible first | exact HI107.out | apply IsS86.alloc | apply IsS86.drewN | apply IsS86.drew | apply IsS86.set_0 | apply IsS86.set_1) | exact HI107.out)) hg (IsS86.own_neS HI107.out HO_4.out (by decide))); have n1_ := Aside0.mk (hb); have n2_ := Aside0.mk (ho); clear HI107; clear HB; clear HO_4; clear HO111; have HI107 := n0_; have HB := n1_; have HO117 := n2_; clear n0_ n1_ n2_; clear ho hb hg hat))
              go_roundg k1
              case measure => have := HK1.out; omega
              case rel => exact ⟨(y115), (wrap64 (x12_1 + 1)), (t113), (t114), (by first | rfl | (simp; done) | (simp [*]; done)), H', ⟨by have := HK1.out; omega⟩, ⟨by (with_reducible repeat (first | apply Kd.S_alloc | apply Kd.S_drewN | apply Kd.S_drew)); exact HO117.out⟩, ⟨by repeat (first | (with_reducible first | exact HI107.out | apply IsS86.alloc | apply IsS86.drewN | apply IsS86.drew | apply IsS86.set_0 | apply IsS86.set_1) | exact HI107.out)⟩, ⟨by repeat (first | (with_reducible first | exact HB.out | apply below_alloc | apply pw_below_drewN | apply below_drew1 | refine below_set ?_ (IsS86.ge HI107.out)) | exact HB.out)⟩⟩
            · rw [if_neg c8] at H
              exact absurd H (by simp)
          · rw [if_neg c6] at H
            exact absurd H (by simp)
        · rw [if_neg c5] at H
          exact absurd H (by simp)
      · rw [if_neg c4] at H
        have c4b0 : decide (x12_1 < (l0.length : Int)) = false := decide_eq_false c4
        clear c4
        obtain rfl := Option.some.inj H
        go_wp2
        go_ret
        exact ⟨_, by first | rfl | (simp [errW_none, errW_some] <;> rfl) | (simp [*, errW_none, errW_some] <;> rfl), by (with_reducible repeat (first | apply Kd.S_alloc | apply Kd.S_drewN | apply Kd.S_drew)); exact HO_4.out, by repeat (first | (with_reducible first | exact HB.out | apply below_alloc | apply pw_below_drewN | apply below_drew1 | refine below_set ?_ (IsS86.ge HI107.out)) | exact HB.out)⟩

/-! ### hushref16_Feed: function 8 -/
mutual
def hushref16_Feed.l0 : Nat → ByteArray → List ByteArray → Option (List ByteArray × ByteArray × Bool)
  | 0, _, _ => none
  | k + 1, x0, x5 => if (x0.size : Int) ≥ 4 then (if 0 < (x0.size : Int) then (if 1 < (x0.size : Int) then (if 2 < (x0.size : Int) then (if 3 < (x0.size : Int) then (if (wrap64 ((wrap64 ((wrap64 ((wrap64 ((wrap64 (bt x0 0)) * 16777216)) + (wrap64 ((wrap64 (bt x0 1)) * 65536)))) + (wrap64 ((wrap64 (bt x0 2)) * 256)))) + (wrap64 (bt x0 3)))) < 1 then (hushref16_Feed.j1 k x0 x5 (wrap64 ((wrap64 ((wrap64 ((wrap64 ((wrap64 (bt x0 0)) * 16777216)) + (wrap64 ((wrap64 (bt x0 1)) * 65536)))) + (wrap64 ((wrap64 (bt x0 2)) * 256)))) + (wrap64 (bt x0 3)))) true) else (hushref16_Feed.j1 k x0 x5 (wrap64 ((wrap64 ((wrap64 ((wrap64 ((wrap64 (bt x0 0)) * 16777216)) + (wrap64 ((wrap64 (bt x0 1)) * 65536)))) + (wrap64 ((wrap64 (bt x0 2)) * 256)))) + (wrap64 (bt x0 3)))) (decide ((wrap64 ((wrap64 ((wrap64 ((wrap64 ((wrap64 (bt x0 0)) * 16777216)) + (wrap64 ((wrap64 (bt x0 1)) * 65536)))) + (wrap64 ((wrap64 (bt x0 2)) * 256)))) + (wrap64 (bt x0 3)))) > 65536)))) else (none)) else (none)) else (none)) else (none)) else (some (x5, x0, false))
def hushref16_Feed.j1 : Nat → ByteArray → List ByteArray → Int → Bool → Option (List ByteArray × ByteArray × Bool)
  | 0, _, _, _, _ => none
  | k + 1, x0, x5, x6, x33 => if x33 = true then (some (x5, (⟨#[]⟩ : ByteArray), true)) else (if (x0.size : Int) < (wrap64 (4 + x6)) then (some (x5, x0, false)) else (if 4 ≤ (wrap64 (4 + x6)) then (if (wrap64 (4 + x6)) ≤ (x0.size : Int) then (if x5.length < 8796093022208 then (if 0 ≤ (wrap64 (4 + x6)) then (hushref16_Feed.l0 k (x0.extract ((wrap64 (4 + x6)) : Int).toNat x0.size) (x5 ++ [x0.extract 4 ((wrap64 (4 + x6)) : Int).toNat])) else (none)) else (none)) else (none)) else (none)))
end
def hushref16_Feed.f (k : Nat) (a0 : ByteArray) : Option (List ByteArray × ByteArray × Bool) := hushref16_Feed.l0 k a0 ([] : List ByteArray)
theorem hushref16_Feed.mono_l : ∀ k, (∀ y0 y1, LeO (hushref16_Feed.l0 k y0 y1) (hushref16_Feed.l0 (k + 1) y0 y1)) ∧ (∀ y0 y1 y2 y3, LeO (hushref16_Feed.j1 k y0 y1 y2 y3) (hushref16_Feed.j1 (k + 1) y0 y1 y2 y3))
  | 0 => ⟨fun _ _ r h => by simp [hushref16_Feed.l0] at h, fun _ _ _ _ r h => by simp [hushref16_Feed.j1] at h⟩
  | k + 1 => by
    obtain ⟨ih0, ih1⟩ := hushref16_Feed.mono_l k
    refine ⟨?_, ?_⟩
    · intro y0 y1
      unfold hushref16_Feed.l0
      repeat' first
      | (with_reducible exact ih0 _ _)
      | (with_reducible exact ih1 _ _ _ _)
      | (with_reducible exact LeO.refl _)
      | (with_reducible exact LeO.none _)
      | (with_reducible refine LeO.ite ?_ ?_)
      | (with_reducible refine LeO.bind ?_ (fun _ => ?_))
      | exact ih0 _ _
      | exact ih1 _ _ _ _
      | exact LeO.none _
      | refine LeO.ite ?_ ?_
      | refine LeO.bind ?_ (fun _ => ?_)
    · intro y0 y1 y2 y3
      unfold hushref16_Feed.j1
      repeat' first
      | (with_reducible exact ih0 _ _)
      | (with_reducible exact ih1 _ _ _ _)
      | (with_reducible exact LeO.refl _)
      | (with_reducible exact LeO.none _)
      | (with_reducible refine LeO.ite ?_ ?_)
      | (with_reducible refine LeO.bind ?_ (fun _ => ?_))
      | exact ih0 _ _
      | exact ih1 _ _ _ _
      | exact LeO.none _
      | refine LeO.ite ?_ ?_
      | refine LeO.bind ?_ (fun _ => ?_)
theorem hushref16_Feed.mono : ∀ a0 k, LeO (hushref16_Feed.f k a0) (hushref16_Feed.f (k + 1) a0) := by
  intro a0 k
  obtain ⟨ih0, ih1⟩ := hushref16_Feed.mono_l k
  unfold hushref16_Feed.f
  repeat' first
      | (with_reducible exact ih0 _ _)
      | (with_reducible exact ih1 _ _ _ _)
      | (with_reducible exact LeO.refl _)
      | (with_reducible exact LeO.none _)
      | (with_reducible refine LeO.ite ?_ ?_)
      | (with_reducible refine LeO.bind ?_ (fun _ => ?_))
      | exact ih0 _ _
      | exact ih1 _ _ _ _
      | exact LeO.none _
      | refine LeO.ite ?_ ?_
      | refine LeO.bind ?_ (fun _ => ?_)
set_option maxHeartbeats 8000000 in
set_option maxRecDepth 100000 in
theorem hushref16_Feed.calls (k : Nat) (a0 : ByteArray) (r1 : List ByteArray) (r2 : ByteArray) (r3 : Bool) (w : World) (h : hushref16_Feed.f k a0 = some (r1, r2, r3)) :
    Calls Try.prog 8 #[.string a0] w fun e w' => ∃ v0_ : Value, e = .returned (.tuple #[v0_, .string r2, .bool r3]) ∧ Kd.R Kd.string 9 w' w.heap.size (fun _ => True) v0_ r1 ∧ Below w.heap.size w w' := by
  have HB := Aside0.mk (Below.refl w.heap.size w)
  have H : (hushref16_Feed.l0 k a0 ([] : List ByteArray)) = some (r1, r2, r3) := h
  clear h
  have H' := Aside0.mk H
  clear H
  go_enter Try.func8, Try.ntmps8
  go_wp2
  repeat (go_quiet (fail); try go_wp2)
  go_loopg [0, 5] k (fun kq v0 v5 w' => ∃ (x0_1 : ByteArray) (x5_1 : List ByteArray), v0 = .string x0_1 ∧ Aside0 (hushref16_Feed.l0 kq x0_1 x5_1 = some (r1, r2, r3)) ∧ Aside0 (kq ≤ k) ∧ Aside0 (Kd.R Kd.string 9 w' w.heap.size (fun _ => True) v5 x5_1) ∧ Aside0 (Below w.heap.size w w'))
  case atStart => exact ⟨(a0), (([] : List ByteArray)), (by first | rfl | (simp; done) | (simp [*]; done)), H', ⟨Nat.le_refl _⟩, ⟨by first | exact Kd.R_nil _ _ _ _ _ | exact Kd.N_nil _ _ _ _ _ | exact Kd.V_nil _ _ _ _ _ | exact Kd.Q_nil _ _ _ _ _ | exact Kd.S_nil _ _ _ _ _⟩, ⟨by repeat (first | (with_reducible first | exact HB.out | apply below_alloc | apply pw_below_drewN | apply below_drew1) | exact HB.out)⟩⟩
  case round =>
    clear H'
    obtain ⟨x0_1, x5_1, rfl, HA, HK1, HO_5, HB⟩ := hrel
    cases gk with
    | zero => exact absurd HA.out (by simp [hushref16_Feed.l0])
    | succ k1 =>
      have H := HA.out
      clear HA
      simp only [hushref16_Feed.l0] at H
      by_cases c2 : (x0_1.size : Int) ≥ 4
      · rw [if_pos c2] at H
        have c2b0 : decide (4 ≤ (x0_1.size : Int)) = true := decide_eq_true c2
        have c2b1 : decide (4 ≤ x0_1.size) = true := decide_eq_true (by omega)
        clear c2
        by_cases c3 : 0 < (x0_1.size : Int)
        · rw [if_pos c3] at H
          have c3b0 : decide (0 < (x0_1.size : Int)) = true := decide_eq_true c3
          have c3b1 : decide (0 < x0_1.size) = true := decide_eq_true (by omega)
          clear c3
          by_cases c5 : 1 < (x0_1.size : Int)
          · rw [if_pos c5] at H
            have c5b0 : decide (1 < (x0_1.size : Int)) = true := decide_eq_true c5
            have c5b1 : decide (1 < x0_1.size) = true := decide_eq_true (by omega)
            clear c5
            by_cases c7 : 2 < (x0_1.size : Int)
            · rw [if_pos c7] at H
              have c7b0 : decide (2 < (x0_1.size : Int)) = true := decide_eq_true c7
              have c7b1 : decide (2 < x0_1.size) = true := decide_eq_true (by omega)
              clear c7
              by_cases c9 : 3 < (x0_1.size : Int)
              · rw [if_pos c9] at H
                have c9b0 : decide (3 < (x0_1.size : Int)) = true := decide_eq_true c9
                have c9b1 : decide (3 < x0_1.size) = true := decide_eq_true (by omega)
                clear c9
                have HC11 := Aside0.mk H
                clear H
                have p4 : 0 ≤ (0 : Int) := (by omega)
                have q4 : 0 < x0_1.size := (by have : (0 : Int) < (x0_1.size : Int) := of_decide_eq_true (by first | (with_reducible assumption) | assumption); omega)
                have hx4 : ∀ h : 0 < x0_1.size, ((x0_1[0]'h).toNat : Int) = bt x0_1 0 := bt_at x0_1 0
                clear p4
                have qi4 : (0 < (x0_1.size : Int)) = True := eq_true (of_decide_eq_true (by first | (with_reducible assumption) | assumption))
                replace q4 := eq_true q4
                have p6 : 0 ≤ (1 : Int) := (by omega)
                have q6 : 1 < x0_1.size := (by have : (1 : Int) < (x0_1.size : Int) := of_decide_eq_true (by first | (with_reducible assumption) | assumption); omega)
                have hx6 : ∀ h : 1 < x0_1.size, ((x0_1[1]'h).toNat : Int) = bt x0_1 1 := bt_at x0_1 1
                clear p6
                have qi6 : (1 < (x0_1.size : Int)) = True := eq_true (of_decide_eq_true (by first | (with_reducible assumption) | assumption))
                replace q6 := eq_true q6
                have p8 : 0 ≤ (2 : Int) := (by omega)
                have q8 : 2 < x0_1.size := (by have : (2 : Int) < (x0_1.size : Int) := of_decide_eq_true (by first | (with_reducible assumption) | assumption); omega)
                have hx8 : ∀ h : 2 < x0_1.size, ((x0_1[2]'h).toNat : Int) = bt x0_1 2 := bt_at x0_1 2
                clear p8
                have qi8 : (2 < (x0_1.size : Int)) = True := eq_true (of_decide_eq_true (by first | (with_reducible assumption) | assumption))
                replace q8 := eq_true q8
                have p10 : 0 ≤ (3 : Int) := (by omega)
                have q10 : 3 < x0_1.size := (by have : (3 : Int) < (x0_1.size : Int) := of_decide_eq_true (by first | (with_reducible assumption) | assumption); omega)
                have hx10 : ∀ h : 3 < x0_1.size, ((x0_1[3]'h).toNat : Int) = bt x0_1 3 := bt_at x0_1 3
                clear p10
                have qi10 : (3 < (x0_1.size : Int)) = True := eq_true (of_decide_eq_true (by first | (with_reducible assumption) | assumption))
                replace q10 := eq_true q10
                go_upto_region 4 with (fail)
                repeat (go_quiet (fail); go_upto_region 4 with (fail))
                go_cut [33] (fun v33 wc => ∃ (kq : Nat) (x33_10 : Bool), v33 = .bool x33_10 ∧ Aside0 (hushref16_Feed.j1 kq x0_1 x5_1 (wrap64 ((wrap64 ((wrap64 ((wrap64 ((wrap64 (bt x0_1 0)) * 16777216)) + (wrap64 ((wrap64 (bt x0_1 1)) * 65536)))) + (wrap64 ((wrap64 (bt x0_1 2)) * 256)))) + (wrap64 (bt x0_1 3)))) x33_10 = some (r1, r2, r3)) ∧ Aside0 (kq ≤ k1) ∧ Aside0 (Kd.R Kd.string 9 wc w.heap.size (fun _ => True) u5 x5_1) ∧ Aside0 (Below w.heap.size w wc))
                case first =>
                  have H := HC11.out
                  clear HC11
                  by_cases c12 : (wrap64 ((wrap64 ((wrap64 ((wrap64 ((wrap64 (bt x0_1 0)) * 16777216)) + (wrap64 ((wrap64 (bt x0_1 1)) * 65536)))) + (wrap64 ((wrap64 (bt x0_1 2)) * 256)))) + (wrap64 (bt x0_1 3)))) < 1
                  · rw [if_pos c12] at H
                    have c12b0 : decide ((wrap64 ((wrap64 ((wrap64 ((wrap64 ((wrap64 (bt x0_1 0)) * 16777216)) + (wrap64 ((wrap64 (bt x0_1 1)) * 65536)))) + (wrap64 ((wrap64 (bt x0_1 2)) * 256)))) + (wrap64 (bt x0_1 3)))) < 1) = true := decide_eq_true c12
                    clear c12
                    (first | rw [c12b0] | (simp only [i64_w, i32_w]; rw [c12b0]) | skip)
                    have H' := Aside0.mk H
                    clear H
                    go_wp2
                    repeat (go_quiet (fail); try go_wp2)
                    go_meet
                    case rel => exact ⟨_, (true), (by first | rfl | (simp; done) | (simp [*]; done)), H', ⟨by have := HK1.out; first | omega | exact Nat.le_refl _⟩, ⟨by (with_reducible repeat (first | apply Kd.R_alloc | apply Kd.R_drewN | apply Kd.R_drew)); exact HO_5.out⟩, ⟨by repeat (first | (with_reducible first | exact HB.out | apply below_alloc | apply pw_below_drewN | apply below_drew1) | exact HB.out)⟩⟩
                  · rw [if_neg c12] at H
                    have c12b0 : decide ((wrap64 ((wrap64 ((wrap64 ((wrap64 ((wrap64 (bt x0_1 0)) * 16777216)) + (wrap64 ((wrap64 (bt x0_1 1)) * 65536)))) + (wrap64 ((wrap64 (bt x0_1 2)) * 256)))) + (wrap64 (bt x0_1 3)))) < 1) = false := decide_eq_false c12
                    clear c12
                    (first | rw [c12b0] | (simp only [i64_w, i32_w]; rw [c12b0]) | skip)
                    have H' := Aside0.mk H
                    clear H
                    go_wp2
                    repeat (go_quiet (fail); try go_wp2)
                    go_meet
                    case rel => exact ⟨_, (decide ((wrap64 ((wrap64 ((wrap64 ((wrap64 ((wrap64 (bt x0_1 0)) * 16777216)) + (wrap64 ((wrap64 (bt x0_1 1)) * 65536)))) + (wrap64 ((wrap64 (bt x0_1 2)) * 256)))) + (wrap64 (bt x0_1 3)))) > 65536)), (by first | rfl | (simp; done) | (simp [*]; done)), H', ⟨by have := HK1.out; first | omega | exact Nat.le_refl _⟩, ⟨by (with_reducible repeat (first | apply Kd.R_alloc | apply Kd.R_drewN | apply Kd.R_drew)); exact HO_5.out⟩, ⟨by repeat (first | (with_reducible first | exact HB.out | apply below_alloc | apply pw_below_drewN | apply below_drew1) | exact HB.out)⟩⟩
                case rest =>
                  clear HC11
                  try clear c1
                  try clear p1
                  try clear q1
                  try clear hx1
                  try clear qi1
                  try clear c2
                  try clear c2b0
                  try clear c2b1
                  try clear p2
                  try clear c3
                  try clear c3b0
                  try clear c3b1
                  try clear p4
                  try clear q4
                  try clear hx4
                  try clear qi4
                  try clear c5
                  try clear c5b0
                  try clear c5b1
                  try clear p6
                  try clear q6
                  try clear hx6
                  try clear qi6
                  try clear c7
                  try clear c7b0
                  try clear c7b1
                  try clear c8
                  try clear p8
                  try clear q8
                  try clear hx8
                  try clear qi8
                  try clear c9
                  try clear c9b0
                  try clear c9b1
                  try clear p10
                  try clear q10
                  try clear hx10
                  try clear qi10
                  try clear c12
                  try clear c12b0
                  try clear p10
                  try clear p4
                  try clear p6
                  try clear p8
                  try clear q10
                  try clear q4
                  try clear q6
                  try clear q8
                  obtain ⟨kq, x33_10, rfl, HA, HJ10, HO_5, HB⟩ := hcut
                  cases kq with
                  | zero => exact absurd HA.out (by simp [hushref16_Feed.j1])
                  | succ kj10 =>
                    have H := HA.out
                    clear HA
                    simp only [hushref16_Feed.j1] at H
                    by_cases c13 : x33_10 = true
                    · subst c13
                      have H1 : (some (x5_1, (⟨#[]⟩ : ByteArray), true)) = some (r1, r2, r3) := by rw [if_pos rfl] at H; exact H
                      clear H
                      have H := H1
                      clear H1
                      simp only [Option.some.injEq, Prod.mk.injEq] at H
                      obtain ⟨rfl, rfl, rfl⟩ := H
                      go_wp2
                      repeat (go_quiet (fail); try go_wp2)
                      go_ret3
                      exact ⟨_, by first | rfl | (simp [errW_none, errW_some] <;> rfl) | (simp [*, errW_none, errW_some] <;> rfl), by (with_reducible repeat (first | apply Kd.R_alloc | apply Kd.R_drewN | apply Kd.R_drew)); exact HO_5.out, by repeat (first | (with_reducible first | exact HB.out | apply below_alloc | apply pw_below_drewN | apply below_drew1) | exact HB.out)⟩
                    · replace c13 := Bool.eq_false_iff.mpr c13
                      subst c13
                      have H1 : (if (x0_1.size : Int) < (wrap64 (4 + (wrap64 ((wrap64 ((wrap64 ((wrap64 ((wrap64 (bt x0_1 0)) * 16777216)) + (wrap64 ((wrap64 (bt x0_1 1)) * 65536)))) + (wrap64 ((wrap64 (bt x0_1 2)) * 256)))) + (wrap64 (bt x0_1 3)))))) then (some (x5_1, x0_1, false)) else (if 4 ≤ (wrap64 (4 + (wrap64 ((wrap64 ((wrap64 ((wrap64 ((wrap64 (bt x0_1 0)) * 16777216)) + (wrap64 ((wrap64 (bt x0_1 1)) * 65536)))) + (wrap64 ((wrap64 (bt x0_1 2)) * 256)))) + (wrap64 (bt x0_1 3)))))) then (if (wrap64 (4 + (wrap64 ((wrap64 ((wrap64 ((wrap64 ((wrap64 (bt x0_1 0)) * 16777216)) + (wrap64 ((wrap64 (bt x0_1 1)) * 65536)))) + (wrap64 ((wrap64 (bt x0_1 2)) * 256)))) + (wrap64 (bt x0_1 3)))))) ≤ (x0_1.size : Int) then (if x5_1.length < 8796093022208 then (if 0 ≤ (wrap64 (4 + (wrap64 ((wrap64 ((wrap64 ((wrap64 ((wrap64 (bt x0_1 0)) * 16777216)) + (wrap64 ((wrap64 (bt x0_1 1)) * 65536)))) + (wrap64 ((wrap64 (bt x0_1 2)) * 256)))) + (wrap64 (bt x0_1 3)))))) then (hushref16_Feed.l0 kj10 (x0_1.extract ((wrap64 (4 + (wrap64 ((wrap64 ((wrap64 ((wrap64 ((wrap64 (bt x0_1 0)) * 16777216)) + (wrap64 ((wrap64 (bt x0_1 1)) * 65536)))) + (wrap64 ((wrap64 (bt x0_1 2)) * 256)))) + (wrap64 (bt x0_1 3)))))) : Int).toNat x0_1.size) (x5_1 ++ [x0_1.extract 4 ((wrap64 (4 + (wrap64 ((wrap64 ((wrap64 ((wrap64 ((wrap64 (bt x0_1 0)) * 16777216)) + (wrap64 ((wrap64 (bt x0_1 1)) * 65536)))) + (wrap64 ((wrap64 (bt x0_1 2)) * 256)))) + (wrap64 (bt x0_1 3)))))) : Int).toNat])) else (none)) else (none)) else (none)) else (none))) = some (r1, r2, r3) := by rw [if_neg (show ¬ (false = true) by decide)] at H; exact H
                      clear H
                      have H := H1
                      clear H1
                      by_cases c14 : (x0_1.size : Int) < (wrap64 (4 + (wrap64 ((wrap64 ((wrap64 ((wrap64 ((wrap64 (bt x0_1 0)) * 16777216)) + (wrap64 ((wrap64 (bt x0_1 1)) * 65536)))) + (wrap64 ((wrap64 (bt x0_1 2)) * 256)))) + (wrap64 (bt x0_1 3))))))
                      · rw [if_pos c14] at H
                        have c14b0 : decide ((x0_1.size : Int) < (wrap64 (4 + (wrap64 ((wrap64 ((wrap64 ((wrap64 ((wrap64 (bt x0_1 0)) * 16777216)) + (wrap64 ((wrap64 (bt x0_1 1)) * 65536)))) + (wrap64 ((wrap64 (bt x0_1 2)) * 256)))) + (wrap64 (bt x0_1 3))))))) = true := decide_eq_true c14
                        clear c14
                        simp only [Option.some.injEq, Prod.mk.injEq] at H
                        obtain ⟨rfl, rfl, rfl⟩ := H
                        go_wp2
                        repeat (go_quiet (fail); try go_wp2)
                        go_ret3
                        exact ⟨_, by first | rfl | (simp [errW_none, errW_some] <;> rfl) | (simp [*, errW_none, errW_some] <;> rfl), by (with_reducible repeat (first | apply Kd.R_alloc | apply Kd.R_drewN | apply Kd.R_drew)); exact HO_5.out, by repeat (first | (with_reducible first | exact HB.out | apply below_alloc | apply pw_below_drewN | apply below_drew1) | exact HB.out)⟩
                      · rw [if_neg c14] at H
                        have c14b0 : decide ((x0_1.size : Int) < (wrap64 (4 + (wrap64 ((wrap64 ((wrap64 ((wrap64 ((wrap64 (bt x0_1 0)) * 16777216)) + (wrap64 ((wrap64 (bt x0_1 1)) * 65536)))) + (wrap64 ((wrap64 (bt x0_1 2)) * 256)))) + (wrap64 (bt x0_1 3))))))) = false := decide_eq_false c14
                        clear c14
                        by_cases c15 : 4 ≤ (wrap64 (4 + (wrap64 ((wrap64 ((wrap64 ((wrap64 ((wrap64 (bt x0_1 0)) * 16777216)) + (wrap64 ((wrap64 (bt x0_1 1)) * 65536)))) + (wrap64 ((wrap64 (bt x0_1 2)) * 256)))) + (wrap64 (bt x0_1 3))))))
                        · rw [if_pos c15] at H
                          have c15b0 := eq_true c15
                          have c15b1 : decide (4 ≤ (wrap64 (4 + (wrap64 ((wrap64 ((wrap64 ((wrap64 ((wrap64 (bt x0_1 0)) * 16777216)) + (wrap64 ((wrap64 (bt x0_1 1)) * 65536)))) + (wrap64 ((wrap64 (bt x0_1 2)) * 256)))) + (wrap64 (bt x0_1 3))))))) = true := decide_eq_true c15
                          by_cases c16 : (wrap64 (4 + (wrap64 ((wrap64 ((wrap64 ((wrap64 ((wrap64 (bt x0_1 0)) * 16777216)) + (wrap64 ((wrap64 (bt x0_1 1)) * 65536)))) + (wrap64 ((wrap64 (bt x0_1 2)) * 256)))) + (wrap64 (bt x0_1 3)))))) ≤ (x0_1.size : Int)
                          · rw [if_pos c16] at H
                            have c16b0 := eq_true c16
                            have c16b1 : decide ((wrap64 (4 + (wrap64 ((wrap64 ((wrap64 ((wrap64 ((wrap64 (bt x0_1 0)) * 16777216)) + (wrap64 ((wrap64 (bt x0_1 1)) * 65536)))) + (wrap64 ((wrap64 (bt x0_1 2)) * 256)))) + (wrap64 (bt x0_1 3)))))) ≤ (x0_1.size : Int)) = true := decide_eq_true c16
                            by_cases c17 : x5_1.length < 8796093022208
                            · rw [if_pos c17] at H
                              have LMc17 := Aside0.mk c17
                              clear c17
                              obtain ⟨y118, hy118⟩ : ∃ y_ : List ByteArray, y_ = (x5_1 ++ [x0_1.extract 4 ((wrap64 (4 + (wrap64 ((wrap64 ((wrap64 ((wrap64 ((wrap64 (bt x0_1 0)) * 16777216)) + (wrap64 ((wrap64 (bt x0_1 1)) * 65536)))) + (wrap64 ((wrap64 (bt x0_1 2)) * 256)))) + (wrap64 (bt x0_1 3)))))) : Int).toNat]) := ⟨_, rfl⟩
                              replace H : (if 0 ≤ (wrap64 (4 + (wrap64 ((wrap64 ((wrap64 ((wrap64 ((wrap64 (bt x0_1 0)) * 16777216)) + (wrap64 ((wrap64 (bt x0_1 1)) * 65536)))) + (wrap64 ((wrap64 (bt x0_1 2)) * 256)))) + (wrap64 (bt x0_1 3)))))) then (hushref16_Feed.l0 kj10 (x0_1.extract ((wrap64 (4 + (wrap64 ((wrap64 ((wrap64 ((wrap64 ((wrap64 (bt x0_1 0)) * 16777216)) + (wrap64 ((wrap64 (bt x0_1 1)) * 65536)))) + (wrap64 ((wrap64 (bt x0_1 2)) * 256)))) + (wrap64 (bt x0_1 3)))))) : Int).toNat x0_1.size) y118) else (none)) = some (r1, r2, r3) := by first | (rw [hy118]; with_reducible exact H) | (have H2_ := (Option.bind_some _ _).symm.trans H; rw [hy118]; with_reducible exact H2_) | (have H2_ := (Option.bind_some _ _).symm.trans H; with_reducible exact H2_) | with_reducible exact H | (rw [hy118]; exact H) | exact H
                              have Ny118 := Aside0.mk hy118
                              clear hy118
                              obtain ⟨ji18, hji18⟩ : ∃ j_ : Int, (wrap64 (4 + (wrap64 ((wrap64 ((wrap64 ((wrap64 ((wrap64 (bt x0_1 0)) * 16777216)) + (wrap64 ((wrap64 (bt x0_1 1)) * 65536)))) + (wrap64 ((wrap64 (bt x0_1 2)) * 256)))) + (wrap64 (bt x0_1 3)))))) = j_ := ⟨_, rfl⟩
                              replace H : (if 0 ≤ (ji18) then (hushref16_Feed.l0 kj10 (x0_1.extract ((ji18) : Int).toNat x0_1.size) y118) else (none)) = some (r1, r2, r3) := by first | (rw [hji18] at H; exact H) | (simp only [hji18] at H ⊢; exact H)
                              (try rw [hji18] at c14b0)
                              (try rw [hji18] at c15b0)
                              (try rw [hji18] at c15b1)
                              (try rw [hji18] at c15)
                              (try rw [hji18] at c16b0)
                              (try rw [hji18] at c16b1)
                              (try rw [hji18] at c16)
                              (try rw [hji18] at Ny118)
                              have hji18w : (IntKind.i64.wrap (4 + (wrap64 ((wrap64 ((wrap64 ((wrap64 ((wrap64 (bt x0_1 0)) * 16777216)) + (wrap64 ((wrap64 (bt x0_1 1)) * 65536)))) + (wrap64 ((wrap64 (bt x0_1 2)) * 256)))) + (wrap64 (bt x0_1 3)))))) = ji18 := (i64_w _).trans hji18
                              by_cases c19 : 0 ≤ (ji18)
                              · rw [if_pos c19] at H
                                have c19b0 := eq_true c19
                                have c19b1 : decide (0 ≤ (ji18)) = true := decide_eq_true c19
                                clear c19
                                have c20b0 := eq_true (of_decide_eq_true (by first | (with_reducible assumption) | assumption) : (ji18) ≤ (x0_1.size : Int))
                                have H' := Aside0.mk H
                                clear H
                                go_wp2_with (first | ((with_reducible refine gate_builtin (b := .append) (xs := #[.tmp 40, .tmp 45]) rfl ?_); at_builtin; refine Kd.R_append Kd.string (w0 := w) w.heap.size rfl (.tmp 40) (.tmp 45) 22 9 (.string ⟨#[]⟩) 16 rfl Try.underlying22 info9 rfl (by decide) (by omega) u5 x5_1 (x0_1.extract 4 ((ji18) : Int).toNat) [.string (x0_1.extract 4 ((ji18) : Int).toNat)] (fun _ => True) (fun _ => False) rfl rfl ?aP (fun _ hk => hk.elim) ?aF ?aO ?aB ?aS ?aL ?_; (case aP => exact rfl); (case aB => exact (by repeat (first | (with_reducible first | exact HB.out | apply below_alloc | apply pw_below_drewN | apply below_drew1) | exact HB.out))); (case aF => exact (fun _ _ => trivial)); (case aO => exact (by (with_reducible repeat (first | apply Kd.R_alloc | apply Kd.R_drewN | apply Kd.R_drew)); exact HO_5.out)); (case aS => exact (below_size (by repeat (first | (with_reducible first | exact HB.out | apply below_alloc | apply pw_below_drewN | apply below_drew1) | exact HB.out)))); (case aL => have := LMc17.out; omega); intro v119 w21 ho hb hg hat; rw [← Ny118.out] at ho; have n0_ := Aside0.mk (hb); have n1_ := Aside0.mk (ho); clear HB; clear HO_5; have HB := n0_; have HO120 := n1_; clear n0_ n1_; clear ho hb hg hat))
                                repeat (go_quiet (first | ((with_reducible refine gate_builtin (b := .append) (xs := #[.tmp 40, .tmp 45]) rfl ?_); at_builtin; refine Kd.R_append Kd.string (w0 := w) w.heap.size rfl (.tmp 40) (.tmp 45) 22 9 (.string ⟨#[]⟩) 16 rfl Try.underlying22 info9 rfl (by decide) (by omega) u5 x5_1 (x0_1.extract 4 ((ji18) : Int).toNat) [.string (x0_1.extract 4 ((ji18) : Int).toNat)] (fun _ => True) (fun _ => False) rfl rfl ?aP (fun _ hk => hk.elim) ?aF ?aO ?aB ?aS ?aL ?_; (case aP => exact rfl); (case aB => exact (by repeat (first | (with_reducible first | exact HB.out | apply below_alloc | apply pw_below_drewN | apply below_drew1) | exact HB.out))); (case aF => exact (fun _ _ => trivial)); (case aO => exact (by (with_reducible repeat (first | apply Kd.R_alloc | apply Kd.R_drewN | apply Kd.R_drew)); exact HO_5.out)); (case aS => exact (below_size (by repeat (first | (with_reducible first | exact HB.out | apply below_alloc | apply pw_below_drewN | apply below_drew1) | exact HB.out)))); (case aL => have := LMc17.out; omega); intro v119 w21 ho hb hg hat; rw [← Ny118.out] at ho; have n0_ := Aside0.mk (hb); have n1_ := Aside0.mk (ho); clear HB; clear HO_5; have HB := n0_; have HO120 := n1_; clear n0_ n1_; clear ho hb hg hat)); try go_wp2_with (first | ((with_reducible refine gate_builtin (b := .append) (xs := #[.tmp 40, .tmp 45]) rfl ?_); at_builtin; refine Kd.R_append Kd.string (w0 := w) w.heap.size rfl (.tmp 40) (.tmp 45) 22 9 (.string ⟨#[]⟩) 16 rfl Try.underlying22 info9 rfl (by decide) (by omega) u5 x5_1 (x0_1.extract 4 ((ji18) : Int).toNat) [.string (x0_1.extract 4 ((ji18) : Int).toNat)] (fun _ => True) (fun _ => False) rfl rfl ?aP (fun _ hk => hk.elim) ?aF ?aO ?aB ?aS ?aL ?_; (case aP => exact rfl); (case aB => exact (by repeat (first | (with_reducible first | exact HB.out | apply below_alloc | apply pw_below_drewN | apply below_drew1) | exact HB.out))); (case aF => exact (fun _ _ => trivial)); (case aO => exact (by (with_reducible repeat (first | apply Kd.R_alloc | apply Kd.R_drewN | apply Kd.R_drew)); exact HO_5.out)); (case aS => exact (below_size (by repeat (first | (with_reducible first | exact HB.out | apply below_alloc | apply pw_below_drewN | apply below_drew1) | exact HB.out)))); (case aL => have := LMc17.out; omega); intro v119 w21 ho hb hg hat; rw [← Ny118.out] at ho; have n0_ := Aside0.mk (hb); have n1_ := Aside0.mk (ho); clear HB; clear HO_5; have HB := n0_; have HO120 := n1_; clear n0_ n1_; clear ho hb hg hat)))
                                go_roundg kj10
                                case measure => have := HK1.out; have := HJ10.out; omega
                                case rel => exact ⟨(x0_1.extract ((ji18) : Int).toNat x0_1.size), (y118), (by first | rfl | (simp; done) | (simp only [← hji18] <;> (first | rfl | simp)) | (simp [*]; done)), H', ⟨by have := HK1.out; have := HJ10.out; omega⟩, ⟨by (with_reducible repeat (first | apply Kd.R_alloc | apply Kd.R_drewN | apply Kd.R_drew)); exact HO120.out⟩, ⟨by repeat (first | (with_reducible first | exact HB.out | apply below_alloc | apply pw_below_drewN | apply below_drew1) | exact HB.out)⟩⟩
                              · rw [if_neg c19] at H
                                exact absurd H (by simp)
                            · rw [if_neg c17] at H
                              exact absurd H (by simp)
                          · rw [if_neg c16] at H
                            exact absurd H (by simp)
                        · rw [if_neg c15] at H
                          exact absurd H (by simp)
              · rw [if_neg c9] at H
                exact absurd H (by simp)
            · rw [if_neg c7] at H
              exact absurd H (by simp)
          · rw [if_neg c5] at H
            exact absurd H (by simp)
        · rw [if_neg c3] at H
          exact absurd H (by simp)
      · rw [if_neg c2] at H
        have c2b0 : decide (4 ≤ (x0_1.size : Int)) = false := decide_eq_false c2
        have c2b1 : decide (4 ≤ x0_1.size) = false := decide_eq_false (by omega)
        clear c2
        simp only [Option.some.injEq, Prod.mk.injEq] at H
        obtain ⟨rfl, rfl, rfl⟩ := H
        go_wp2
        repeat (go_quiet (fail); try go_wp2)
        go_ret3
        exact ⟨_, by first | rfl | (simp [errW_none, errW_some] <;> rfl) | (simp [*, errW_none, errW_some] <;> rfl), by (with_reducible repeat (first | apply Kd.R_alloc | apply Kd.R_drewN | apply Kd.R_drew)); exact HO_5.out, by repeat (first | (with_reducible first | exact HB.out | apply below_alloc | apply pw_below_drewN | apply below_drew1) | exact HB.out)⟩

end Go.Proofs.Ytdfeidpkdbleaaa.PA

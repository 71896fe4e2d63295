/- Functions of the translated program as Lean functions, and what their calls come to: written by this session's own program (wip/xprint.py) over the kit's print. Conditions stand in each theorem. -/
import Derived.Test.YtdfeidpkdbleaaaPAx0
import Derived.Test.YtdfeidpkdbleaaaPAx4
import Derived.Test.YtdfeidpkdbleaaaPAx5
namespace Go.Proofs.Ytdfeidpkdbleaaa.PA
open Go.RowKit Go.Proofs.YtdfeidpkdbleaaaW.PrintWords Go.Proofs.YtdfeidpkdbleaaaW.PrintLast Go.Proofs.YtdfeidpkdbleaaaW.PrintMore
attribute [local go_sem] max2_int min2_int max_two min_two max_three min_three max_four min_four   -- for this text's walks alone
set_option linter.unusedVariables false
set_option linter.unusedSimpArgs false

/-! ### hushlaw16_WireFeeds: function 3 -/
def hushlaw16_WireFeeds.l0 : Nat → List (S27) → ByteArray → Bool → List ByteArray → Int → Int → Option (Bool)
  | 0, _, _, _, _, _, _ => none
  | k + 1, x3, x4, x5, x17, x18, x19 => if x19 < x18 then (if 0 ≤ x19 then (if x19 < (x17.length : Int) then (if x5 = true then (if x19 < (x3.length : Int) then (if (((rd_T27 x3 x19).f0).length : Int) = 0 then (if ((rd_T27 x3 x19).f1) = 9 then (hushlaw16_WireFeeds.l0 k x3 x4 x5 x17 x18 (wrap64 (x19 + 1))) else (some false)) else (some false)) else (none)) else (if x4.size + (rdOf ByteArray.empty x17 x19).size ≤ 9223372036854775807 then ((hushref16_Feed.f k (x4 ++ (rdOf ByteArray.empty x17 x19))).bind fun bt129 => (if bt129.2.2 = true then (if x19 < (x3.length : Int) then ((hushlaw16_sameTexts.f k ((rd_T27 x3 x19).f0) bt129.1).bind fun t135 => (if t135 = true then (if ((rd_T27 x3 x19).f1) = 2 then (hushlaw16_WireFeeds.l0 k x3 bt129.2.1 bt129.2.2 x17 x18 (wrap64 (x19 + 1))) else (some false)) else (some false))) else (none)) else (if x19 < (x3.length : Int) then ((hushlaw16_sameTexts.f k ((rd_T27 x3 x19).f0) bt129.1).bind fun t138 => (if t138 = true then (if ((rd_T27 x3 x19).f1) = 0 then (hushlaw16_WireFeeds.l0 k x3 bt129.2.1 bt129.2.2 x17 x18 (wrap64 (x19 + 1))) else (some false)) else (some false))) else (none)))) else (none))) else (none)) else (none)) else (some true)
def hushlaw16_WireFeeds.f (k : Nat) (l0 : List ByteArray) : Option (Bool) := (plain_Crumbs.f k l0).bind fun t123 => (if (t123.length : Int) = (l0.length : Int) then (hushlaw16_WireFeeds.l0 k t123 (⟨#[]⟩ : ByteArray) false l0 (l0.length : Int) 0) else (some false))
theorem hushlaw16_WireFeeds.mono_l : ∀ k, (∀ y0 y1 y2 y3 y4 y5, LeO (hushlaw16_WireFeeds.l0 k y0 y1 y2 y3 y4 y5) (hushlaw16_WireFeeds.l0 (k + 1) y0 y1 y2 y3 y4 y5))
  | 0 => fun _ _ _ _ _ _ r h => by simp [hushlaw16_WireFeeds.l0] at h
  | k + 1 => by
    have ih0 := hushlaw16_WireFeeds.mono_l k
    · intro y0 y1 y2 y3 y4 y5
      unfold hushlaw16_WireFeeds.l0
      repeat' first
      | (with_reducible exact ih0 _ _ _ _ _ _)
      | (with_reducible exact hushlaw16_sameTexts.mono _ _ _)
      | (with_reducible exact hushref16_Feed.mono _ _)
      | (with_reducible exact plain_Crumbs.mono _ _)
      | (with_reducible exact LeO.refl _)
      | (with_reducible exact LeO.none _)
      | (with_reducible refine LeO.ite ?_ ?_)
      | (with_reducible refine LeO.bind ?_ (fun _ => ?_))
      | exact ih0 _ _ _ _ _ _
      | exact hushlaw16_sameTexts.mono _ _ _
      | exact hushref16_Feed.mono _ _
      | exact plain_Crumbs.mono _ _
      | exact LeO.none _
      | refine LeO.ite ?_ ?_
      | refine LeO.bind ?_ (fun _ => ?_)
theorem hushlaw16_WireFeeds.mono : ∀ a0 k, LeO (hushlaw16_WireFeeds.f k a0) (hushlaw16_WireFeeds.f (k + 1) a0) := by
  intro a0 k
  have ih0 := hushlaw16_WireFeeds.mono_l k
  unfold hushlaw16_WireFeeds.f
  repeat' first
      | (with_reducible exact ih0 _ _ _ _ _ _)
      | (with_reducible exact hushlaw16_sameTexts.mono _ _ _)
      | (with_reducible exact hushref16_Feed.mono _ _)
      | (with_reducible exact plain_Crumbs.mono _ _)
      | (with_reducible exact LeO.refl _)
      | (with_reducible exact LeO.none _)
      | (with_reducible refine LeO.ite ?_ ?_)
      | (with_reducible refine LeO.bind ?_ (fun _ => ?_))
      | exact ih0 _ _ _ _ _ _
      | exact hushlaw16_sameTexts.mono _ _ _
      | exact hushref16_Feed.mono _ _
      | exact plain_Crumbs.mono _ _
      | exact LeO.none _
      | refine LeO.ite ?_ ?_
      | refine LeO.bind ?_ (fun _ => ?_)
set_option maxHeartbeats 8000000 in
set_option maxRecDepth 100000 in
theorem hushlaw16_WireFeeds.calls (k : Nat) (A0 : Option Addr) (c0 : Nat) (l0 : List ByteArray) (r : Bool) (w : World) (hr0 : Kd.C Kd.string w A0 l0.length l0) (hc0 : l0.length ≤ c0) (h : hushlaw16_WireFeeds.f k l0 = some r) :
    Calls Try.prog 3 #[.slice A0 l0.length c0] w fun e w' => e = .returned (.bool r) ∧ Below w.heap.size w w' := by
  have HR0 := Aside0.mk hr0
  have HC0 := Aside0.mk hc0
  clear hr0 hc0
  have HB := Aside0.mk (Below.refl w.heap.size w)
  have H : ((plain_Crumbs.f k l0).bind fun t123 => (if (t123.length : Int) = (l0.length : Int) then (hushlaw16_WireFeeds.l0 k t123 (⟨#[]⟩ : ByteArray) false l0 (l0.length : Int) 0) else (some false))) = some r := h
  clear h
  replace H := Option.bind_eq_some_iff.mp H
  obtain ⟨t123, A20, H⟩ := H
  replace H : (if (t123.length : Int) = (l0.length : Int) then (hushlaw16_WireFeeds.l0 k t123 (⟨#[]⟩ : ByteArray) false l0 (l0.length : Int) 0) else (some false)) = some r := H
  have A2 := Aside0.mk A20
  clear A20
  by_cases c3 : (t123.length : Int) = (l0.length : Int)
  · rw [if_pos c3] at H
    have c3b0 : ((t123.length : Int) == (l0.length : Int)) = true := beq_iff_eq.mpr c3
    have c3b1 : ((t123.length : Int) != (l0.length : Int)) = false := bne_eq_false_iff_eq.mpr c3
    have c3b2 : (t123.length == l0.length) = true := by first | simpa using c3 | (simp at c3 ⊢; omega)
    clear c3
    have H' := Aside0.mk H
    clear H
    go_enter Try.func3, Try.ntmps3
    go_wp2_with (first | ((with_reducible refine gate_callee (f := 7) rfl ?_); refine goesL_ (some 11) rfl rfl Try.func7 (by kernel_rfl) rfl #[.slice A0 l0.length c0] rfl (by (try simp only [List.map_toArray, List.map_cons, List.map_nil]); first | done | rfl | (simp only [List.length_drop, List.length_take]; rfl)) ?_; (with_reducible refine (plain_Crumbs.calls k _ _ l0 t123 _ ?side1 ?side2 A2.out).mono ?_); (case side1 => repeat (first | exact HR0.out | (with_reducible refine Kd.C_alloc ?_ _) | (with_reducible refine Kd.C_drewN ?_ _) | (with_reducible refine Kd.C_drew ?_))); (case side2 => exact HC0.out); rintro e w4 ⟨v124, rfl, ho0, hb⟩; refine ⟨_, rfl, ?_⟩; have n0_ := Aside0.mk (Kd.S_lower ho0 (below_size (by repeat (first | (with_reducible first | exact HB.out | apply below_alloc | apply pw_below_drewN | apply below_drew1) | exact HB.out)))); have n1_ := Aside0.mk (below_step (by repeat (first | (with_reducible first | exact HB.out | apply below_alloc | apply pw_below_drewN | apply below_drew1) | exact HB.out)) hb); clear HB; have HO125 := n0_; have HB := n1_; clear n0_ n1_; (try clear hb); (try clear hb2); (try clear hk); (try clear hi); (try clear ho0); obtain ⟨Ao5, co5, eo5⟩ := Kd.S_slice HO125.out; subst eo5))
    go_loopg [4, 5, 19] k (fun kq v4 v5 v19 w' => ∃ (x4_1 : ByteArray) (x5_1 : Bool) (x19_1 : Int), v4 = .string x4_1 ∧ v5 = .bool x5_1 ∧ v19 = .int .i64 x19_1 ∧ Aside0 (hushlaw16_WireFeeds.l0 kq t123 x4_1 x5_1 l0 (l0.length : Int) x19_1 = some r) ∧ Aside0 (kq ≤ k) ∧ Aside0 (Kd.S k27 27 w' w.heap.size (fun _ => True) (.slice Ao5 t123.length co5) t123) ∧ Aside0 (Below w.heap.size w w'))
    case atStart => exact ⟨((⟨#[]⟩ : ByteArray)), (false), (0), (by first | rfl | (simp; done) | (simp [*]; done)), (by first | rfl | (simp; done) | (simp [*]; done)), (by first | rfl | (simp; done) | (simp [*]; done)), H', ⟨Nat.le_refl _⟩, ⟨by (with_reducible repeat (first | apply Kd.S_alloc | apply Kd.S_drewN | apply Kd.S_drew)); exact HO125.out⟩, ⟨by repeat (first | (with_reducible first | exact HB.out | apply below_alloc | apply pw_below_drewN | apply below_drew1) | exact HB.out)⟩⟩
    case round =>
      clear H'
      try clear p2
      try clear c3
      try clear c3b0
      try clear c3b1
      try clear c3b2
      obtain ⟨x4_1, x5_1, x19_1, rfl, rfl, rfl, HA, HK1, HO_3, HB⟩ := hrel
      cases gk with
      | zero => exact absurd HA.out (by simp [hushlaw16_WireFeeds.l0])
      | succ k1 =>
        have H := HA.out
        clear HA
        simp only [hushlaw16_WireFeeds.l0] at H
        by_cases c6 : x19_1 < (l0.length : Int)
        · rw [if_pos c6] at H
          have c6b0 : decide (x19_1 < (l0.length : Int)) = true := decide_eq_true c6
          clear c6
          by_cases c7 : 0 ≤ x19_1
          · rw [if_pos c7] at H
            have c7b0 : decide (0 ≤ x19_1) = true := decide_eq_true c7
            clear c7
            by_cases c8 : x19_1 < (l0.length : Int)
            · rw [if_pos c8] at H
              have c8b0 : decide (x19_1 < (l0.length : Int)) = true := decide_eq_true c8
              clear c8
              by_cases c9 : x5_1 = true
              · subst c9
                have H1 : (if x19_1 < (t123.length : Int) then (if (((rd_T27 t123 x19_1).f0).length : Int) = 0 then (if ((rd_T27 t123 x19_1).f1) = 9 then (hushlaw16_WireFeeds.l0 k1 t123 x4_1 true l0 (l0.length : Int) (wrap64 (x19_1 + 1))) else (some false)) else (some false)) else (none)) = some r := by rw [if_pos rfl] at H; exact H
                clear H
                have H := H1
                clear H1
                by_cases c10 : x19_1 < (t123.length : Int)
                · rw [if_pos c10] at H
                  have c10b0 : decide (x19_1 < (t123.length : Int)) = true := decide_eq_true c10
                  clear c10
                  by_cases c11 : (((rd_T27 t123 x19_1).f0).length : Int) = 0
                  · rw [if_pos c11] at H
                    have c11b0 : ((((rd_T27 t123 x19_1).f0).length : Int) == 0) = true := beq_iff_eq.mpr c11
                    have c11b1 : ((((rd_T27 t123 x19_1).f0).length : Int) != 0) = false := bne_eq_false_iff_eq.mpr c11
                    clear c11
                    by_cases c12 : ((rd_T27 t123 x19_1).f1) = 9
                    · rw [if_pos c12] at H
                      have c12b0 : (((rd_T27 t123 x19_1).f1) == 9) = true := beq_iff_eq.mpr c12
                      have c12b1 : (((rd_T27 t123 x19_1).f1) != 9) = false := bne_eq_false_iff_eq.mpr c12
                      clear c12
                      have H' := Aside0.mk H
                      clear H
                      have p126 : 0 ≤ (x19_1 : Int) := of_decide_eq_true (by first | (with_reducible assumption) | assumption)
                      have q126 : x19_1 < (l0.length : Int) := of_decide_eq_true (by first | (with_reducible assumption) | assumption)
                      obtain ⟨ad126, e126, hx126_0⟩ := Kd.at_string HR0.out x19_1 p126 q126
                      cases e126
                      replace hx126_0 := (HB.out.cell (World.block_lt_of_cell? w _ hx126_0)).trans hx126_0
                      replace p126 := eq_true p126
                      replace q126 := eq_true q126
                      have p127 : 0 ≤ (x19_1 : Int) := of_decide_eq_true (by first | (with_reducible assumption) | assumption)
                      have q127 : x19_1 < (t123.length : Int) := of_decide_eq_true (by first | (with_reducible assumption) | assumption)
                      obtain ⟨ad127, A127_0, c127_0, e127, hx127_0, hx127_1, hl127_0, hi127_0⟩ := at_T27 (Kd.S_reads' HO_3.out).2.2 x19_1 p127 q127
                      cases e127
                      obtain ⟨ce127, hce127, hMe127, hcc127⟩ := Kd.S_get HO_3.out z27 x19_1 p127 (by first | exact q127 | exact of_decide_eq_true (by first | (with_reducible assumption) | assumption) | (have e_ := (Kd.S_reads' HO_3.out).1; omega))
                      obtain ⟨ve127_0, rfl, ge127_0⟩ := k27_openM hMe127
                      have hv127_0 := hcc127 0 _ rfl
                      rw [Nat.add_zero] at hv127_0
                      replace hv127_0 := Option.some.inj (hv127_0.symm.trans hx127_0)
                      rw [hv127_0] at ge127_0
                      have HL127_0 := Aside0.mk (show Kd.R Kd.string 9 _ _ _ _ ((rd_T27 t123 x19_1).f0) from ge127_0)
                      clear hv127_0 ge127_0
                      clear hcc127 hce127
                      have HR127_0 := Aside0.mk hi127_0
                      have HC127_0 := Aside0.mk hl127_0
                      clear hi127_0 hl127_0
                      replace p127 := eq_true p127
                      replace q127 := eq_true q127
                      have p128 : 0 ≤ (x19_1 : Int) := of_decide_eq_true (by first | (with_reducible assumption) | assumption)
                      have q128 : x19_1 < (t123.length : Int) := of_decide_eq_true (by first | (with_reducible assumption) | assumption)
                      obtain ⟨ad128, A128_0, c128_0, e128, hx128_0, hx128_1, hl128_0, hi128_0⟩ := at_T27 (Kd.S_reads' HO_3.out).2.2 x19_1 p128 q128
                      obtain rfl : ad127 = ad128 := (by injection e128)
                      obtain ⟨ce128, hce128, hMe128, hcc128⟩ := Kd.S_get HO_3.out z27 x19_1 p128 (by first | exact q128 | exact of_decide_eq_true (by first | (with_reducible assumption) | assumption) | (have e_ := (Kd.S_reads' HO_3.out).1; omega))
                      obtain ⟨ve128_0, rfl, ge128_0⟩ := k27_openM hMe128
                      have hv128_0 := hcc128 0 _ rfl
                      rw [Nat.add_zero] at hv128_0
                      replace hv128_0 := Option.some.inj (hv128_0.symm.trans hx128_0)
                      rw [hv128_0] at ge128_0
                      have HL128_0 := Aside0.mk (show Kd.R Kd.string 9 _ _ _ _ ((rd_T27 t123 x19_1).f0) from ge128_0)
                      clear hv128_0 ge128_0
                      clear hcc128 hce128
                      have HR128_0 := Aside0.mk hi128_0
                      have HC128_0 := Aside0.mk hl128_0
                      clear hi128_0 hl128_0
                      replace p128 := eq_true p128
                      replace q128 := eq_true q128
                      have ea_ := Option.some.inj (hx127_0.symm.trans hx128_0)
                      injection ea_ with ea_ en_ ec_
                      subst ea_
                      subst ec_
                      clear en_
                      go_wp2
                      go_roundg k1
                      case measure => have := HK1.out; omega
                      case rel => exact ⟨(x4_1), (true), (wrap64 (x19_1 + 1)), (by first | rfl | (simp; done) | (simp [*]; done)), (by first | rfl | (simp; done) | (simp [*]; done)), (by first | rfl | (simp; done) | (simp [*]; done)), H', ⟨by have := HK1.out; omega⟩, ⟨by (with_reducible repeat (first | apply Kd.S_alloc | apply Kd.S_drewN | apply Kd.S_drew)); exact HO_3.out⟩, ⟨by repeat (first | (with_reducible first | exact HB.out | apply below_alloc | apply pw_below_drewN | apply below_drew1) | exact HB.out)⟩⟩
                    · rw [if_neg c12] at H
                      have c12b0 : (((rd_T27 t123 x19_1).f1) == 9) = false := beq_eq_false_iff_ne.mpr c12
                      have c12b1 : (((rd_T27 t123 x19_1).f1) != 9) = true := bne_iff_ne.mpr c12
                      obtain rfl := Option.some.inj H
                      have p126 : 0 ≤ (x19_1 : Int) := of_decide_eq_true (by first | (with_reducible assumption) | assumption)
                      have q126 : x19_1 < (l0.length : Int) := of_decide_eq_true (by first | (with_reducible assumption) | assumption)
                      obtain ⟨ad126, e126, hx126_0⟩ := Kd.at_string HR0.out x19_1 p126 q126
                      cases e126
                      replace hx126_0 := (HB.out.cell (World.block_lt_of_cell? w _ hx126_0)).trans hx126_0
                      replace p126 := eq_true p126
                      replace q126 := eq_true q126
                      have p127 : 0 ≤ (x19_1 : Int) := of_decide_eq_true (by first | (with_reducible assumption) | assumption)
                      have q127 : x19_1 < (t123.length : Int) := of_decide_eq_true (by first | (with_reducible assumption) | assumption)
                      obtain ⟨ad127, A127_0, c127_0, e127, hx127_0, hx127_1, hl127_0, hi127_0⟩ := at_T27 (Kd.S_reads' HO_3.out).2.2 x19_1 p127 q127
                      cases e127
                      obtain ⟨ce127, hce127, hMe127, hcc127⟩ := Kd.S_get HO_3.out z27 x19_1 p127 (by first | exact q127 | exact of_decide_eq_true (by first | (with_reducible assumption) | assumption) | (have e_ := (Kd.S_reads' HO_3.out).1; omega))
                      obtain ⟨ve127_0, rfl, ge127_0⟩ := k27_openM hMe127
                      have hv127_0 := hcc127 0 _ rfl
                      rw [Nat.add_zero] at hv127_0
                      replace hv127_0 := Option.some.inj (hv127_0.symm.trans hx127_0)
                      rw [hv127_0] at ge127_0
                      have HL127_0 := Aside0.mk (show Kd.R Kd.string 9 _ _ _ _ ((rd_T27 t123 x19_1).f0) from ge127_0)
                      clear hv127_0 ge127_0
                      clear hcc127 hce127
                      have HR127_0 := Aside0.mk hi127_0
                      have HC127_0 := Aside0.mk hl127_0
                      clear hi127_0 hl127_0
                      replace p127 := eq_true p127
                      replace q127 := eq_true q127
                      have p128 : 0 ≤ (x19_1 : Int) := of_decide_eq_true (by first | (with_reducible assumption) | assumption)
                      have q128 : x19_1 < (t123.length : Int) := of_decide_eq_true (by first | (with_reducible assumption) | assumption)
                      obtain ⟨ad128, A128_0, c128_0, e128, hx128_0, hx128_1, hl128_0, hi128_0⟩ := at_T27 (Kd.S_reads' HO_3.out).2.2 x19_1 p128 q128
                      obtain rfl : ad127 = ad128 := (by injection e128)
                      obtain ⟨ce128, hce128, hMe128, hcc128⟩ := Kd.S_get HO_3.out z27 x19_1 p128 (by first | exact q128 | exact of_decide_eq_true (by first | (with_reducible assumption) | assumption) | (have e_ := (Kd.S_reads' HO_3.out).1; omega))
                      obtain ⟨ve128_0, rfl, ge128_0⟩ := k27_openM hMe128
                      have hv128_0 := hcc128 0 _ rfl
                      rw [Nat.add_zero] at hv128_0
                      replace hv128_0 := Option.some.inj (hv128_0.symm.trans hx128_0)
                      rw [hv128_0] at ge128_0
                      have HL128_0 := Aside0.mk (show Kd.R Kd.string 9 _ _ _ _ ((rd_T27 t123 x19_1).f0) from ge128_0)
                      clear hv128_0 ge128_0
                      clear hcc128 hce128
                      have HR128_0 := Aside0.mk hi128_0
                      have HC128_0 := Aside0.mk hl128_0
                      clear hi128_0 hl128_0
                      replace p128 := eq_true p128
                      replace q128 := eq_true q128
                      have ea_ := Option.some.inj (hx127_0.symm.trans hx128_0)
                      injection ea_ with ea_ en_ ec_
                      subst ea_
                      subst ec_
                      clear en_
                      go_wp2
                      go_ret
                      exact ⟨by first | rfl | (simp [errW_none, errW_some] <;> rfl) | (simp [*, errW_none, errW_some] <;> rfl), by repeat (first | (with_reducible first | exact HB.out | apply below_alloc | apply pw_below_drewN | apply below_drew1) | exact HB.out)⟩
                  · rw [if_neg c11] at H
                    have c11b0 : ((((rd_T27 t123 x19_1).f0).length : Int) == 0) = false := beq_eq_false_iff_ne.mpr c11
                    have c11b1 : ((((rd_T27 t123 x19_1).f0).length : Int) != 0) = true := bne_iff_ne.mpr c11
                    have c11b2 : ¬ (((rd_T27 t123 x19_1).f0) = []) := fun h_ => c11 (by rw [h_]; rfl)
                    obtain rfl := Option.some.inj H
                    have p126 : 0 ≤ (x19_1 : Int) := of_decide_eq_true (by first | (with_reducible assumption) | assumption)
                    have q126 : x19_1 < (l0.length : Int) := of_decide_eq_true (by first | (with_reducible assumption) | assumption)
                    obtain ⟨ad126, e126, hx126_0⟩ := Kd.at_string HR0.out x19_1 p126 q126
                    cases e126
                    replace hx126_0 := (HB.out.cell (World.block_lt_of_cell? w _ hx126_0)).trans hx126_0
                    replace p126 := eq_true p126
                    replace q126 := eq_true q126
                    have p127 : 0 ≤ (x19_1 : Int) := of_decide_eq_true (by first | (with_reducible assumption) | assumption)
                    have q127 : x19_1 < (t123.length : Int) := of_decide_eq_true (by first | (with_reducible assumption) | assumption)
                    obtain ⟨ad127, A127_0, c127_0, e127, hx127_0, hx127_1, hl127_0, hi127_0⟩ := at_T27 (Kd.S_reads' HO_3.out).2.2 x19_1 p127 q127
                    cases e127
                    obtain ⟨ce127, hce127, hMe127, hcc127⟩ := Kd.S_get HO_3.out z27 x19_1 p127 (by first | exact q127 | exact of_decide_eq_true (by first | (with_reducible assumption) | assumption) | (have e_ := (Kd.S_reads' HO_3.out).1; omega))
                    obtain ⟨ve127_0, rfl, ge127_0⟩ := k27_openM hMe127
                    have hv127_0 := hcc127 0 _ rfl
                    rw [Nat.add_zero] at hv127_0
                    replace hv127_0 := Option.some.inj (hv127_0.symm.trans hx127_0)
                    rw [hv127_0] at ge127_0
                    have HL127_0 := Aside0.mk (show Kd.R Kd.string 9 _ _ _ _ ((rd_T27 t123 x19_1).f0) from ge127_0)
                    clear hv127_0 ge127_0
                    clear hcc127 hce127
                    have HR127_0 := Aside0.mk hi127_0
                    have HC127_0 := Aside0.mk hl127_0
                    clear hi127_0 hl127_0
                    replace p127 := eq_true p127
                    replace q127 := eq_true q127
                    go_wp2
                    go_ret
                    exact ⟨by first | rfl | (simp [errW_none, errW_some] <;> rfl) | (simp [*, errW_none, errW_some] <;> rfl), by repeat (first | (with_reducible first | exact HB.out | apply below_alloc | apply pw_below_drewN | apply below_drew1) | exact HB.out)⟩
                · rw [if_neg c10] at H
                  exact absurd H (by simp)
              · replace c9 := Bool.eq_false_iff.mpr c9
                subst c9
                have H1 : (if x4_1.size + (rdOf ByteArray.empty l0 x19_1).size ≤ 9223372036854775807 then ((hushref16_Feed.f k1 (x4_1 ++ (rdOf ByteArray.empty l0 x19_1))).bind fun bt129 => (if bt129.2.2 = true then (if x19_1 < (t123.length : Int) then ((hushlaw16_sameTexts.f k1 ((rd_T27 t123 x19_1).f0) bt129.1).bind fun t135 => (if t135 = true then (if ((rd_T27 t123 x19_1).f1) = 2 then (hushlaw16_WireFeeds.l0 k1 t123 bt129.2.1 bt129.2.2 l0 (l0.length : Int) (wrap64 (x19_1 + 1))) else (some false)) else (some false))) else (none)) else (if x19_1 < (t123.length : Int) then ((hushlaw16_sameTexts.f k1 ((rd_T27 t123 x19_1).f0) bt129.1).bind fun t138 => (if t138 = true then (if ((rd_T27 t123 x19_1).f1) = 0 then (hushlaw16_WireFeeds.l0 k1 t123 bt129.2.1 bt129.2.2 l0 (l0.length : Int) (wrap64 (x19_1 + 1))) else (some false)) else (some false))) else (none)))) else (none)) = some r := by rw [if_neg (show ¬ (false = true) by decide)] at H; exact H
                clear H
                have H := H1
                clear H1
                by_cases c13 : x4_1.size + (rdOf ByteArray.empty l0 x19_1).size ≤ 9223372036854775807
                · rw [if_pos c13] at H
                  have c13b0 := eq_true c13
                  have c13b1 : decide (x4_1.size + (rdOf ByteArray.empty l0 x19_1).size ≤ 9223372036854775807) = true := decide_eq_true c13
                  try have c13b2 : (9223372036854775807 < x4_1.size + (rdOf ByteArray.empty l0 x19_1).size) = False := eq_false (Nat.not_lt.2 c13)
                  replace H := Option.bind_eq_some_iff.mp H
                  obtain ⟨⟨t129, t130, t131⟩, A140, H⟩ := H
                  replace H : (if t131 = true then (if x19_1 < (t123.length : Int) then ((hushlaw16_sameTexts.f k1 ((rd_T27 t123 x19_1).f0) t129).bind fun t135 => (if t135 = true then (if ((rd_T27 t123 x19_1).f1) = 2 then (hushlaw16_WireFeeds.l0 k1 t123 t130 t131 l0 (l0.length : Int) (wrap64 (x19_1 + 1))) else (some false)) else (some false))) else (none)) else (if x19_1 < (t123.length : Int) then ((hushlaw16_sameTexts.f k1 ((rd_T27 t123 x19_1).f0) t129).bind fun t138 => (if t138 = true then (if ((rd_T27 t123 x19_1).f1) = 0 then (hushlaw16_WireFeeds.l0 k1 t123 t130 t131 l0 (l0.length : Int) (wrap64 (x19_1 + 1))) else (some false)) else (some false))) else (none))) = some r := H
                  have A14 := Aside0.mk A140
                  clear A140
                  by_cases c15 : t131 = true
                  · subst c15
                    have H1 : (if x19_1 < (t123.length : Int) then ((hushlaw16_sameTexts.f k1 ((rd_T27 t123 x19_1).f0) t129).bind fun t135 => (if t135 = true then (if ((rd_T27 t123 x19_1).f1) = 2 then (hushlaw16_WireFeeds.l0 k1 t123 t130 true l0 (l0.length : Int) (wrap64 (x19_1 + 1))) else (some false)) else (some false))) else (none)) = some r := by rw [if_pos rfl] at H; exact H
                    clear H
                    have H := H1
                    clear H1
                    by_cases c16 : x19_1 < (t123.length : Int)
                    · rw [if_pos c16] at H
                      have c16b0 : decide (x19_1 < (t123.length : Int)) = true := decide_eq_true c16
                      clear c16
                      replace H := Option.bind_eq_some_iff.mp H
                      obtain ⟨t135, A170, H⟩ := H
                      replace H : (if t135 = true then (if ((rd_T27 t123 x19_1).f1) = 2 then (hushlaw16_WireFeeds.l0 k1 t123 t130 true l0 (l0.length : Int) (wrap64 (x19_1 + 1))) else (some false)) else (some false)) = some r := H
                      have A17 := Aside0.mk A170
                      clear A170
                      by_cases c18 : t135 = true
                      · subst c18
                        have H1 : (if ((rd_T27 t123 x19_1).f1) = 2 then (hushlaw16_WireFeeds.l0 k1 t123 t130 true l0 (l0.length : Int) (wrap64 (x19_1 + 1))) else (some false)) = some r := by rw [if_pos rfl] at H; exact H
                        clear H
                        have H := H1
                        clear H1
                        by_cases c19 : ((rd_T27 t123 x19_1).f1) = 2
                        · rw [if_pos c19] at H
                          have c19b0 : (((rd_T27 t123 x19_1).f1) == 2) = true := beq_iff_eq.mpr c19
                          have c19b1 : (((rd_T27 t123 x19_1).f1) != 2) = false := bne_eq_false_iff_eq.mpr c19
                          clear c19
                          have H' := Aside0.mk H
                          clear H
                          have p126 : 0 ≤ (x19_1 : Int) := of_decide_eq_true (by first | (with_reducible assumption) | assumption)
                          have q126 : x19_1 < (l0.length : Int) := of_decide_eq_true (by first | (with_reducible assumption) | assumption)
                          obtain ⟨ad126, e126, hx126_0⟩ := Kd.at_string HR0.out x19_1 p126 q126
                          cases e126
                          replace hx126_0 := (HB.out.cell (World.block_lt_of_cell? w _ hx126_0)).trans hx126_0
                          replace p126 := eq_true p126
                          replace q126 := eq_true q126
                          go_wp2_with (first | ((with_reducible refine gate_callee (f := 8) rfl ?_); refine goesL_ (some 44) rfl rfl Try.func8 (by kernel_rfl) rfl #[.string (x4_1 ++ (rdOf ByteArray.empty l0 x19_1))] rfl (by (try simp only [List.map_toArray, List.map_cons, List.map_nil]); first | done | rfl | (simp only [List.length_drop, List.length_take]; rfl)) ?_; (with_reducible refine (hushref16_Feed.calls k1 (x4_1 ++ (rdOf ByteArray.empty l0 x19_1)) t129 t130 true _ A14.out).mono ?_); rintro e w20 ⟨v132, rfl, ho0, hb⟩; refine ⟨_, rfl, ?_⟩; have n0_ := Aside0.mk (Kd.S_elder' (by (with_reducible repeat (first | apply Kd.S_alloc | apply Kd.S_drewN | apply Kd.S_drew)); exact HO_3.out) (Kd.R_base ho0) hb); have n1_ := Aside0.mk (Kd.R_lower ho0 (below_size (by repeat (first | (with_reducible first | exact HB.out | apply below_alloc | apply pw_below_drewN | apply below_drew1) | exact HB.out)))); have n2_ := Aside0.mk (below_step (by repeat (first | (with_reducible first | exact HB.out | apply below_alloc | apply pw_below_drewN | apply below_drew1) | exact HB.out)) hb); clear HO_3; clear HB; have HO_3 := n0_; have HO133 := n1_; have HB := n2_; clear n0_ n1_ n2_; (try clear hb); (try clear hb2); (try clear hk); (try clear hi); (try clear ho0); have p134 : 0 ≤ (x19_1 : Int) := of_decide_eq_true (by first | (with_reducible assumption) | assumption); have q134 : x19_1 < (t123.length : Int) := of_decide_eq_true (by first | (with_reducible assumption) | assumption); obtain ⟨ad134, A134_0, c134_0, e134, hx134_0, hx134_1, hl134_0, hi134_0⟩ := at_T27 (Kd.S_reads' HO_3.out).2.2 x19_1 p134 q134; cases e134; obtain ⟨ce134, hce134, hMe134, hcc134⟩ := Kd.S_get HO_3.out z27 x19_1 p134 (by first | exact q134 | exact of_decide_eq_true (by first | (with_reducible assumption) | assumption) | (have e_ := (Kd.S_reads' HO_3.out).1; omega)); obtain ⟨ve134_0, rfl, ge134_0⟩ := k27_openM hMe134; have hv134_0 := hcc134 0 _ rfl; rw [Nat.add_zero] at hv134_0; replace hv134_0 := Option.some.inj (hv134_0.symm.trans hx134_0); rw [hv134_0] at ge134_0; have HL134_0 := Aside0.mk (show Kd.R Kd.string 9 _ _ _ _ ((rd_T27 t123 x19_1).f0) from ge134_0); clear hv134_0 ge134_0; clear hcc134 hce134; have HR134_0 := Aside0.mk hi134_0; have HC134_0 := Aside0.mk hl134_0; clear hi134_0 hl134_0; replace p134 := eq_true p134; replace q134 := eq_true q134; obtain ⟨Ao21, co21, eo21⟩ := Kd.R_slice HO133.out; subst eo21) | ((with_reducible refine gate_callee (f := 9) rfl ?_); refine goesL_ (some 55) rfl rfl Try.func9 (by kernel_rfl) rfl #[.slice A134_0 ((rd_T27 t123 x19_1).f0).length c134_0, .slice Ao21 t129.length co21] rfl (by (try simp only [List.map_toArray, List.map_cons, List.map_nil]); first | done | rfl | (simp only [List.length_drop, List.length_take]; rfl)) ?_; (with_reducible refine (hushlaw16_sameTexts.calls k1 _ _ ((rd_T27 t123 x19_1).f0) _ _ t129 true _ ?side1 ?side2 ?side3 ?side4 A17.out).mono ?_); (case side1 => repeat (first | exact (by repeat (first | (with_reducible exact HR134_0.out) | (with_reducible refine Kd.C_alloc ?_ _) | (with_reducible refine Kd.C_drewN ?_ _) | (with_reducible refine Kd.C_drew ?_) | exact HR134_0.out)) | (with_reducible refine Kd.C_alloc ?_ _) | (with_reducible refine Kd.C_drewN ?_ _) | (with_reducible refine Kd.C_drew ?_))); (case side2 => exact HC134_0.out); (case side3 => repeat (first | exact (Kd.R_reads' HO133.out).2.2 | (with_reducible refine Kd.C_alloc ?_ _) | (with_reducible refine Kd.C_drewN ?_ _) | (with_reducible refine Kd.C_drew ?_))); (case side4 => exact (Kd.R_reads' HO133.out).2.1); rintro e w' ⟨rfl, ⟨nd, rfl⟩⟩; refine ⟨_, rfl, ?_⟩; have p136 : 0 ≤ (x19_1 : Int) := of_decide_eq_true (by first | (with_reducible assumption) | assumption); have q136 : x19_1 < (t123.length : Int) := of_decide_eq_true (by first | (with_reducible assumption) | assumption); obtain ⟨ad136, A136_0, c136_0, e136, hx136_0, hx136_1, hl136_0, hi136_0⟩ := at_T27 (Kd.S_reads' HO_3.out).2.2 x19_1 p136 q136; obtain rfl : ad134 = ad136 := (by injection e136); obtain ⟨ce136, hce136, hMe136, hcc136⟩ := Kd.S_get HO_3.out z27 x19_1 p136 (by first | exact q136 | exact of_decide_eq_true (by first | (with_reducible assumption) | assumption) | (have e_ := (Kd.S_reads' HO_3.out).1; omega)); obtain ⟨ve136_0, rfl, ge136_0⟩ := k27_openM hMe136; have hv136_0 := hcc136 0 _ rfl; rw [Nat.add_zero] at hv136_0; replace hv136_0 := Option.some.inj (hv136_0.symm.trans hx136_0); rw [hv136_0] at ge136_0; have HL136_0 := Aside0.mk (show Kd.R Kd.string 9 _ _ _ _ ((rd_T27 t123 x19_1).f0) from ge136_0); clear hv136_0 ge136_0; clear hcc136 hce136; have HR136_0 := Aside0.mk hi136_0; have HC136_0 := Aside0.mk hl136_0; clear hi136_0 hl136_0; replace p136 := eq_true p136; replace q136 := eq_true q136; have ea_ := Option.some.inj (hx134_0.symm.trans hx136_0); injection ea_ with ea_ en_ ec_; subst ea_; subst ec_; clear en_))
                          go_roundg k1
                          case measure => have := HK1.out; omega
                          case rel => exact ⟨(t130), (true), (wrap64 (x19_1 + 1)), (by first | rfl | (simp; done) | (simp [*]; done)), (by first | rfl | (simp; done) | (simp [*]; done)), (by first | rfl | (simp; done) | (simp [*]; done)), H', ⟨by have := HK1.out; omega⟩, ⟨by (with_reducible repeat (first | apply Kd.S_alloc | apply Kd.S_drewN | apply Kd.S_drew)); exact Kd.S_mono HO_3.out (fun _ hk => trivial)⟩, ⟨by repeat (first | (with_reducible first | exact HB.out | apply below_alloc | apply pw_below_drewN | apply below_drew1) | exact HB.out)⟩⟩
                        · rw [if_neg c19] at H
                          have c19b0 : (((rd_T27 t123 x19_1).f1) == 2) = false := beq_eq_false_iff_ne.mpr c19
                          have c19b1 : (((rd_T27 t123 x19_1).f1) != 2) = true := bne_iff_ne.mpr c19
                          obtain rfl := Option.some.inj H
                          have p126 : 0 ≤ (x19_1 : Int) := of_decide_eq_true (by first | (with_reducible assumption) | assumption)
                          have q126 : x19_1 < (l0.length : Int) := of_decide_eq_true (by first | (with_reducible assumption) | assumption)
                          obtain ⟨ad126, e126, hx126_0⟩ := Kd.at_string HR0.out x19_1 p126 q126
                          cases e126
                          replace hx126_0 := (HB.out.cell (World.block_lt_of_cell? w _ hx126_0)).trans hx126_0
                          replace p126 := eq_true p126
                          replace q126 := eq_true q126
                          go_wp2_with (first | ((with_reducible refine gate_callee (f := 8) rfl ?_); refine goesL_ (some 44) rfl rfl Try.func8 (by kernel_rfl) rfl #[.string (x4_1 ++ (rdOf ByteArray.empty l0 x19_1))] rfl (by (try simp only [List.map_toArray, List.map_cons, List.map_nil]); first | done | rfl | (simp only [List.length_drop, List.length_take]; rfl)) ?_; (with_reducible refine (hushref16_Feed.calls k1 (x4_1 ++ (rdOf ByteArray.empty l0 x19_1)) t129 t130 true _ A14.out).mono ?_); rintro e w22 ⟨v132, rfl, ho0, hb⟩; refine ⟨_, rfl, ?_⟩; have n0_ := Aside0.mk (Kd.S_elder' (by (with_reducible repeat (first | apply Kd.S_alloc | apply Kd.S_drewN | apply Kd.S_drew)); exact HO_3.out) (Kd.R_base ho0) hb); have n1_ := Aside0.mk (Kd.R_lower ho0 (below_size (by repeat (first | (with_reducible first | exact HB.out | apply below_alloc | apply pw_below_drewN | apply below_drew1) | exact HB.out)))); have n2_ := Aside0.mk (below_step (by repeat (first | (with_reducible first | exact HB.out | apply below_alloc | apply pw_below_drewN | apply below_drew1) | exact HB.out)) hb); clear HO_3; clear HB; have HO_3 := n0_; have HO133 := n1_; have HB := n2_; clear n0_ n1_ n2_; (try clear hb); (try clear hb2); (try clear hk); (try clear hi); (try clear ho0); have p134 : 0 ≤ (x19_1 : Int) := of_decide_eq_true (by first | (with_reducible assumption) | assumption); have q134 : x19_1 < (t123.length : Int) := of_decide_eq_true (by first | (with_reducible assumption) | assumption); obtain ⟨ad134, A134_0, c134_0, e134, hx134_0, hx134_1, hl134_0, hi134_0⟩ := at_T27 (Kd.S_reads' HO_3.out).2.2 x19_1 p134 q134; cases e134; obtain ⟨ce134, hce134, hMe134, hcc134⟩ := Kd.S_get HO_3.out z27 x19_1 p134 (by first | exact q134 | exact of_decide_eq_true (by first | (with_reducible assumption) | assumption) | (have e_ := (Kd.S_reads' HO_3.out).1; omega)); obtain ⟨ve134_0, rfl, ge134_0⟩ := k27_openM hMe134; have hv134_0 := hcc134 0 _ rfl; rw [Nat.add_zero] at hv134_0; replace hv134_0 := Option.some.inj (hv134_0.symm.trans hx134_0); rw [hv134_0] at ge134_0; have HL134_0 := Aside0.mk (show Kd.R Kd.string 9 _ _ _ _ ((rd_T27 t123 x19_1).f0) from ge134_0); clear hv134_0 ge134_0; clear hcc134 hce134; have HR134_0 := Aside0.mk hi134_0; have HC134_0 := Aside0.mk hl134_0; clear hi134_0 hl134_0; replace p134 := eq_true p134; replace q134 := eq_true q134; obtain ⟨Ao23, co23, eo23⟩ := Kd.R_slice HO133.out; subst eo23) | ((with_reducible refine gate_callee (f := 9) rfl ?_); refine goesL_ (some 55) rfl rfl Try.func9 (by kernel_rfl) rfl #[.slice A134_0 ((rd_T27 t123 x19_1).f0).length c134_0, .slice Ao23 t129.length co23] rfl (by (try simp only [List.map_toArray, List.map_cons, List.map_nil]); first | done | rfl | (simp only [List.length_drop, List.length_take]; rfl)) ?_; (with_reducible refine (hushlaw16_sameTexts.calls k1 _ _ ((rd_T27 t123 x19_1).f0) _ _ t129 true _ ?side1 ?side2 ?side3 ?side4 A17.out).mono ?_); (case side1 => repeat (first | exact (by repeat (first | (with_reducible exact HR134_0.out) | (with_reducible refine Kd.C_alloc ?_ _) | (with_reducible refine Kd.C_drewN ?_ _) | (with_reducible refine Kd.C_drew ?_) | exact HR134_0.out)) | (with_reducible refine Kd.C_alloc ?_ _) | (with_reducible refine Kd.C_drewN ?_ _) | (with_reducible refine Kd.C_drew ?_))); (case side2 => exact HC134_0.out); (case side3 => repeat (first | exact (Kd.R_reads' HO133.out).2.2 | (with_reducible refine Kd.C_alloc ?_ _) | (with_reducible refine Kd.C_drewN ?_ _) | (with_reducible refine Kd.C_drew ?_))); (case side4 => exact (Kd.R_reads' HO133.out).2.1); rintro e w' ⟨rfl, ⟨nd, rfl⟩⟩; refine ⟨_, rfl, ?_⟩; have p136 : 0 ≤ (x19_1 : Int) := of_decide_eq_true (by first | (with_reducible assumption) | assumption); have q136 : x19_1 < (t123.length : Int) := of_decide_eq_true (by first | (with_reducible assumption) | assumption); obtain ⟨ad136, A136_0, c136_0, e136, hx136_0, hx136_1, hl136_0, hi136_0⟩ := at_T27 (Kd.S_reads' HO_3.out).2.2 x19_1 p136 q136; obtain rfl : ad134 = ad136 := (by injection e136); obtain ⟨ce136, hce136, hMe136, hcc136⟩ := Kd.S_get HO_3.out z27 x19_1 p136 (by first | exact q136 | exact of_decide_eq_true (by first | (with_reducible assumption) | assumption) | (have e_ := (Kd.S_reads' HO_3.out).1; omega)); obtain ⟨ve136_0, rfl, ge136_0⟩ := k27_openM hMe136; have hv136_0 := hcc136 0 _ rfl; rw [Nat.add_zero] at hv136_0; replace hv136_0 := Option.some.inj (hv136_0.symm.trans hx136_0); rw [hv136_0] at ge136_0; have HL136_0 := Aside0.mk (show Kd.R Kd.string 9 _ _ _ _ ((rd_T27 t123 x19_1).f0) from ge136_0); clear hv136_0 ge136_0; clear hcc136 hce136; have HR136_0 := Aside0.mk hi136_0; have HC136_0 := Aside0.mk hl136_0; clear hi136_0 hl136_0; replace p136 := eq_true p136; replace q136 := eq_true q136; have ea_ := Option.some.inj (hx134_0.symm.trans hx136_0); injection ea_ with ea_ en_ ec_; subst ea_; subst ec_; clear en_))
                          go_ret
                          exact ⟨by first | rfl | (simp [errW_none, errW_some] <;> rfl) | (simp [*, errW_none, errW_some] <;> rfl), by repeat (first | (with_reducible first | exact HB.out | apply below_alloc | apply pw_below_drewN | apply below_drew1) | exact HB.out)⟩
                      · replace c18 := Bool.eq_false_iff.mpr c18
                        subst c18
                        have H1 : (some false) = some r := by rw [if_neg (show ¬ (false = true) by decide)] at H; exact H
                        clear H
                        have H := H1
                        clear H1
                        obtain rfl := Option.some.inj H
                        have p126 : 0 ≤ (x19_1 : Int) := of_decide_eq_true (by first | (with_reducible assumption) | assumption)
                        have q126 : x19_1 < (l0.length : Int) := of_decide_eq_true (by first | (with_reducible assumption) | assumption)
                        obtain ⟨ad126, e126, hx126_0⟩ := Kd.at_string HR0.out x19_1 p126 q126
                        cases e126
                        replace hx126_0 := (HB.out.cell (World.block_lt_of_cell? w _ hx126_0)).trans hx126_0
                        replace p126 := eq_true p126
                        replace q126 := eq_true q126
                        go_wp2_with (first | ((with_reducible refine gate_callee (f := 8) rfl ?_); refine goesL_ (some 44) rfl rfl Try.func8 (by kernel_rfl) rfl #[.string (x4_1 ++ (rdOf ByteArray.empty l0 x19_1))] rfl (by (try simp only [List.map_toArray, List.map_cons, List.map_nil]); first | done | rfl | (simp only [List.length_drop, List.length_take]; rfl)) ?_; (with_reducible refine (hushref16_Feed.calls k1 (x4_1 ++ (rdOf ByteArray.empty l0 x19_1)) t129 t130 true _ A14.out).mono ?_); rintro e w24 ⟨v132, rfl, ho0, hb⟩; refine ⟨_, rfl, ?_⟩; have n0_ := Aside0.mk (Kd.S_elder' (by (with_reducible repeat (first | apply Kd.S_alloc | apply Kd.S_drewN | apply Kd.S_drew)); exact HO_3.out) (Kd.R_base ho0) hb); have n1_ := Aside0.mk (Kd.R_lower ho0 (below_size (by repeat (first | (with_reducible first | exact HB.out | apply below_alloc | apply pw_below_drewN | apply below_drew1) | exact HB.out)))); have n2_ := Aside0.mk (below_step (by repeat (first | (with_reducible first | exact HB.out | apply below_alloc | apply pw_below_drewN | apply below_drew1) | exact HB.out)) hb); clear HO_3; clear HB; have HO_3 := n0_; have HO133 := n1_; have HB := n2_; clear n0_ n1_ n2_; (try clear hb); (try clear hb2); (try clear hk); (try clear hi); (try clear ho0); have p134 : 0 ≤ (x19_1 : Int) := of_decide_eq_true (by first | (with_reducible assumption) | assumption); have q134 : x19_1 < (t123.length : Int) := of_decide_eq_true (by first | (with_reducible assumption) | assumption); obtain ⟨ad134, A134_0, c134_0, e134, hx134_0, hx134_1, hl134_0, hi134_0⟩ := at_T27 (Kd.S_reads' HO_3.out).2.2 x19_1 p134 q134; cases e134; obtain ⟨ce134, hce134, hMe134, hcc134⟩ := Kd.S_get HO_3.out z27 x19_1 p134 (by first | exact q134 | exact of_decide_eq_true (by first | (with_reducible assumption) | assumption) | (have e_ := (Kd.S_reads' HO_3.out).1; omega)); obtain ⟨ve134_0, rfl, ge134_0⟩ := k27_openM hMe134; have hv134_0 := hcc134 0 _ rfl; rw [Nat.add_zero] at hv134_0; replace hv134_0 := Option.some.inj (hv134_0.symm.trans hx134_0); rw [hv134_0] at ge134_0; have HL134_0 := Aside0.mk (show Kd.R Kd.string 9 _ _ _ _ ((rd_T27 t123 x19_1).f0) from ge134_0); clear hv134_0 ge134_0; clear hcc134 hce134; have HR134_0 := Aside0.mk hi134_0; have HC134_0 := Aside0.mk hl134_0; clear hi134_0 hl134_0; replace p134 := eq_true p134; replace q134 := eq_true q134; obtain ⟨Ao25, co25, eo25⟩ := Kd.R_slice HO133.out; subst eo25) | ((with_reducible refine gate_callee (f := 9) rfl ?_); refine goesL_ (some 55) rfl rfl Try.func9 (by kernel_rfl) rfl #[.slice A134_0 ((rd_T27 t123 x19_1).f0).length c134_0, .slice Ao25 t129.length co25] rfl (by (try simp only [List.map_toArray, List.map_cons, List.map_nil]); first | done | rfl | (simp only [List.length_drop, List.length_take]; rfl)) ?_; (with_reducible refine (hushlaw16_sameTexts.calls k1 _ _ ((rd_T27 t123 x19_1).f0) _ _ t129 false _ ?side1 ?side2 ?side3 ?side4 A17.out).mono ?_); (case side1 => repeat (first | exact (by repeat (first | (with_reducible exact HR134_0.out) | (with_reducible refine Kd.C_alloc ?_ _) | (with_reducible refine Kd.C_drewN ?_ _) | (with_reducible refine Kd.C_drew ?_) | exact HR134_0.out)) | (with_reducible refine Kd.C_alloc ?_ _) | (with_reducible refine Kd.C_drewN ?_ _) | (with_reducible refine Kd.C_drew ?_))); (case side2 => exact HC134_0.out); (case side3 => repeat (first | exact (Kd.R_reads' HO133.out).2.2 | (with_reducible refine Kd.C_alloc ?_ _) | (with_reducible refine Kd.C_drewN ?_ _) | (with_reducible refine Kd.C_drew ?_))); (case side4 => exact (Kd.R_reads' HO133.out).2.1); rintro e w' ⟨rfl, ⟨nd, rfl⟩⟩; refine ⟨_, rfl, ?_⟩))
                        go_ret
                        exact ⟨by first | rfl | (simp [errW_none, errW_some] <;> rfl) | (simp [*, errW_none, errW_some] <;> rfl), by repeat (first | (with_reducible first | exact HB.out | apply below_alloc | apply pw_below_drewN | apply below_drew1) | exact HB.out)⟩
                    · rw [if_neg c16] at H
                      exact absurd H (by simp)
                  · replace c15 := Bool.eq_false_iff.mpr c15
                    subst c15
                    have H1 : (if x19_1 < (t123.length : Int) then ((hushlaw16_sameTexts.f k1 ((rd_T27 t123 x19_1).f0) t129).bind fun t138 => (if t138 = true then (if ((rd_T27 t123 x19_1).f1) = 0 then (hushlaw16_WireFeeds.l0 k1 t123 t130 false l0 (l0.length : Int) (wrap64 (x19_1 + 1))) else (some false)) else (some false))) else (none)) = some r := by rw [if_neg (show ¬ (false = true) by decide)] at H; exact H
                    clear H
                    have H := H1
                    clear H1
                    by_cases c26 : x19_1 < (t123.length : Int)
                    · rw [if_pos c26] at H
                      have c26b0 : decide (x19_1 < (t123.length : Int)) = true := decide_eq_true c26
                      clear c26
                      replace H := Option.bind_eq_some_iff.mp H
                      obtain ⟨t138, A270, H⟩ := H
                      replace H : (if t138 = true then (if ((rd_T27 t123 x19_1).f1) = 0 then (hushlaw16_WireFeeds.l0 k1 t123 t130 false l0 (l0.length : Int) (wrap64 (x19_1 + 1))) else (some false)) else (some false)) = some r := H
                      have A27 := Aside0.mk A270
                      clear A270
                      by_cases c28 : t138 = true
                      · subst c28
                        have H1 : (if ((rd_T27 t123 x19_1).f1) = 0 then (hushlaw16_WireFeeds.l0 k1 t123 t130 false l0 (l0.length : Int) (wrap64 (x19_1 + 1))) else (some false)) = some r := by rw [if_pos rfl] at H; exact H
                        clear H
                        have H := H1
                        clear H1
                        by_cases c29 : ((rd_T27 t123 x19_1).f1) = 0
                        · rw [if_pos c29] at H
                          have c29b0 : (((rd_T27 t123 x19_1).f1) == 0) = true := beq_iff_eq.mpr c29
                          have c29b1 : (((rd_T27 t123 x19_1).f1) != 0) = false := bne_eq_false_iff_eq.mpr c29
                          clear c29
                          have H' := Aside0.mk H
                          clear H
                          have p126 : 0 ≤ (x19_1 : Int) := of_decide_eq_true (by first | (with_reducible assumption) | assumption)
                          have q126 : x19_1 < (l0.length : Int) := of_decide_eq_true (by first | (with_reducible assumption) | assumption)
                          obtain ⟨ad126, e126, hx126_0⟩ := Kd.at_string HR0.out x19_1 p126 q126
                          cases e126
                          replace hx126_0 := (HB.out.cell (World.block_lt_of_cell? w _ hx126_0)).trans hx126_0
                          replace p126 := eq_true p126
                          replace q126 := eq_true q126
                          go_wp2_with (first | ((with_reducible refine gate_callee (f := 8) rfl ?_); refine goesL_ (some 44) rfl rfl Try.func8 (by kernel_rfl) rfl #[.string (x4_1 ++ (rdOf ByteArray.empty l0 x19_1))] rfl (by (try simp only [List.map_toArray, List.map_cons, List.map_nil]); first | done | rfl | (simp only [List.length_drop, List.length_take]; rfl)) ?_; (with_reducible refine (hushref16_Feed.calls k1 (x4_1 ++ (rdOf ByteArray.empty l0 x19_1)) t129 t130 false _ A14.out).mono ?_); rintro e w30 ⟨v132, rfl, ho0, hb⟩; refine ⟨_, rfl, ?_⟩; have n0_ := Aside0.mk (Kd.S_elder' (by (with_reducible repeat (first | apply Kd.S_alloc | apply Kd.S_drewN | apply Kd.S_drew)); exact HO_3.out) (Kd.R_base ho0) hb); have n1_ := Aside0.mk (Kd.R_lower ho0 (below_size (by repeat (first | (with_reducible first | exact HB.out | apply below_alloc | apply pw_below_drewN | apply below_drew1) | exact HB.out)))); have n2_ := Aside0.mk (below_step (by repeat (first | (with_reducible first | exact HB.out | apply below_alloc | apply pw_below_drewN | apply below_drew1) | exact HB.out)) hb); clear HO_3; clear HB; have HO_3 := n0_; have HO133 := n1_; have HB := n2_; clear n0_ n1_ n2_; (try clear hb); (try clear hb2); (try clear hk); (try clear hi); (try clear ho0); have p137 : 0 ≤ (x19_1 : Int) := of_decide_eq_true (by first | (with_reducible assumption) | assumption); have q137 : x19_1 < (t123.length : Int) := of_decide_eq_true (by first | (with_reducible assumption) | assumption); obtain ⟨ad137, A137_0, c137_0, e137, hx137_0, hx137_1, hl137_0, hi137_0⟩ := at_T27 (Kd.S_reads' HO_3.out).2.2 x19_1 p137 q137; cases e137; obtain ⟨ce137, hce137, hMe137, hcc137⟩ := Kd.S_get HO_3.out z27 x19_1 p137 (by first | exact q137 | exact of_decide_eq_true (by first | (with_reducible assumption) | assumption) | (have e_ := (Kd.S_reads' HO_3.out).1; omega)); obtain ⟨ve137_0, rfl, ge137_0⟩ := k27_openM hMe137; have hv137_0 := hcc137 0 _ rfl; rw [Nat.add_zero] at hv137_0; replace hv137_0 := Option.some.inj (hv137_0.symm.trans hx137_0); rw [hv137_0] at ge137_0; have HL137_0 := Aside0.mk (show Kd.R Kd.string 9 _ _ _ _ ((rd_T27 t123 x19_1).f0) from ge137_0); clear hv137_0 ge137_0; clear hcc137 hce137; have HR137_0 := Aside0.mk hi137_0; have HC137_0 := Aside0.mk hl137_0; clear hi137_0 hl137_0; replace p137 := eq_true p137; replace q137 := eq_true q137; obtain ⟨Ao31, co31, eo31⟩ := Kd.R_slice HO133.out; subst eo31) | ((with_reducible refine gate_callee (f := 9) rfl ?_); refine goesL_ (some 55) rfl rfl Try.func9 (by kernel_rfl) rfl #[.slice A137_0 ((rd_T27 t123 x19_1).f0).length c137_0, .slice Ao31 t129.length co31] rfl (by (try simp only [List.map_toArray, List.map_cons, List.map_nil]); first | done | rfl | (simp only [List.length_drop, List.length_take]; rfl)) ?_; (with_reducible refine (hushlaw16_sameTexts.calls k1 _ _ ((rd_T27 t123 x19_1).f0) _ _ t129 true _ ?side1 ?side2 ?side3 ?side4 A27.out).mono ?_); (case side1 => repeat (first | exact (by repeat (first | (with_reducible exact HR137_0.out) | (with_reducible refine Kd.C_alloc ?_ _) | (with_reducible refine Kd.C_drewN ?_ _) | (with_reducible refine Kd.C_drew ?_) | exact HR137_0.out)) | (with_reducible refine Kd.C_alloc ?_ _) | (with_reducible refine Kd.C_drewN ?_ _) | (with_reducible refine Kd.C_drew ?_))); (case side2 => exact HC137_0.out); (case side3 => repeat (first | exact (Kd.R_reads' HO133.out).2.2 | (with_reducible refine Kd.C_alloc ?_ _) | (with_reducible refine Kd.C_drewN ?_ _) | (with_reducible refine Kd.C_drew ?_))); (case side4 => exact (Kd.R_reads' HO133.out).2.1); rintro e w' ⟨rfl, ⟨nd, rfl⟩⟩; refine ⟨_, rfl, ?_⟩; have p139 : 0 ≤ (x19_1 : Int) := of_decide_eq_true (by first | (with_reducible assumption) | assumption); have q139 : x19_1 < (t123.length : Int) := of_decide_eq_true (by first | (with_reducible assumption) | assumption); obtain ⟨ad139, A139_0, c139_0, e139, hx139_0, hx139_1, hl139_0, hi139_0⟩ := at_T27 (Kd.S_reads' HO_3.out).2.2 x19_1 p139 q139; obtain rfl : ad137 = ad139 := (by injection e139); obtain ⟨ce139, hce139, hMe139, hcc139⟩ := Kd.S_get HO_3.out z27 x19_1 p139 (by first | exact q139 | exact of_decide_eq_true (by first | (with_reducible assumption) | assumption) | (have e_ := (Kd.S_reads' HO_3.out).1; omega)); obtain ⟨ve139_0, rfl, ge139_0⟩ := k27_openM hMe139; have hv139_0 := hcc139 0 _ rfl; rw [Nat.add_zero] at hv139_0; replace hv139_0 := Option.some.inj (hv139_0.symm.trans hx139_0); rw [hv139_0] at ge139_0; have HL139_0 := Aside0.mk (show Kd.R Kd.string 9 _ _ _ _ ((rd_T27 t123 x19_1).f0) from ge139_0); clear hv139_0 ge139_0; clear hcc139 hce139; have HR139_0 := Aside0.mk hi139_0; have HC139_0 := Aside0.mk hl139_0; clear hi139_0 hl139_0; replace p139 := eq_true p139; replace q139 := eq_true q139; have ea_ := Option.some.inj (hx137_0.symm.trans hx139_0); injection ea_ with ea_ en_ ec_; subst ea_; subst ec_; clear en_))
                          go_roundg k1
                          case measure => have := HK1.out; omega
                          case rel => exact ⟨(t130), (false), (wrap64 (x19_1 + 1)), (by first | rfl | (simp; done) | (simp [*]; done)), (by first | rfl | (simp; done) | (simp [*]; done)), (by first | rfl | (simp; done) | (simp [*]; done)), H', ⟨by have := HK1.out; omega⟩, ⟨by (with_reducible repeat (first | apply Kd.S_alloc | apply Kd.S_drewN | apply Kd.S_drew)); exact Kd.S_mono HO_3.out (fun _ hk => trivial)⟩, ⟨by repeat (first | (with_reducible first | exact HB.out | apply below_alloc | apply pw_below_drewN | apply below_drew1) | exact HB.out)⟩⟩
                        · rw [if_neg c29] at H
                          have c29b0 : (((rd_T27 t123 x19_1).f1) == 0) = false := beq_eq_false_iff_ne.mpr c29
                          have c29b1 : (((rd_T27 t123 x19_1).f1) != 0) = true := bne_iff_ne.mpr c29
                          obtain rfl := Option.some.inj H
                          have p126 : 0 ≤ (x19_1 : Int) := of_decide_eq_true (by first | (with_reducible assumption) | assumption)
                          have q126 : x19_1 < (l0.length : Int) := of_decide_eq_true (by first | (with_reducible assumption) | assumption)
                          obtain ⟨ad126, e126, hx126_0⟩ := Kd.at_string HR0.out x19_1 p126 q126
                          cases e126
                          replace hx126_0 := (HB.out.cell (World.block_lt_of_cell? w _ hx126_0)).trans hx126_0
                          replace p126 := eq_true p126
                          replace q126 := eq_true q126
                          go_wp2_with (first | ((with_reducible refine gate_callee (f := 8) rfl ?_); refine goesL_ (some 44) rfl rfl Try.func8 (by kernel_rfl) rfl #[.string (x4_1 ++ (rdOf ByteArray.empty l0 x19_1))] rfl (by (try simp only [List.map_toArray, List.map_cons, List.map_nil]); first | done | rfl | (simp only [List.length_drop, List.length_take]; rfl)) ?_; (with_reducible refine (hushref16_Feed.calls k1 (x4_1 ++ (rdOf ByteArray.empty l0 x19_1)) t129 t130 false _ A14.out).mono ?_); rintro e w32 ⟨v132, rfl, ho0, hb⟩; refine ⟨_, rfl, ?_⟩; have n0_ := Aside0.mk (Kd.S_elder' (by (with_reducible repeat (first | apply Kd.S_alloc | apply Kd.S_drewN | apply Kd.S_drew)); exact HO_3.out) (Kd.R_base ho0) hb); have n1_ := Aside0.mk (Kd.R_lower ho0 (below_size (by repeat (first | (with_reducible first | exact HB.out | apply below_alloc | apply pw_below_drewN | apply below_drew1) | exact HB.out)))); have n2_ := Aside0.mk (below_step (by repeat (first | (with_reducible first | exact HB.out | apply below_alloc | apply pw_below_drewN | apply below_drew1) | exact HB.out)) hb); clear HO_3; clear HB; have HO_3 := n0_; have HO133 := n1_; have HB := n2_; clear n0_ n1_ n2_; (try clear hb); (try clear hb2); (try clear hk); (try clear hi); (try clear ho0); have p137 : 0 ≤ (x19_1 : Int) := of_decide_eq_true (by first | (with_reducible assumption) | assumption); have q137 : x19_1 < (t123.length : Int) := of_decide_eq_true (by first | (with_reducible assumption) | assumption); obtain ⟨ad137, A137_0, c137_0, e137, hx137_0, hx137_1, hl137_0, hi137_0⟩ := at_T27 (Kd.S_reads' HO_3.out).2.2 x19_1 p137 q137; cases e137; obtain ⟨ce137, hce137, hMe137, hcc137⟩ := Kd.S_get HO_3.out z27 x19_1 p137 (by first | exact q137 | exact of_decide_eq_true (by first | (with_reducible assumption) | assumption) | (have e_ := (Kd.S_reads' HO_3.out).1; omega)); obtain ⟨ve137_0, rfl, ge137_0⟩ := k27_openM hMe137; have hv137_0 := hcc137 0 _ rfl; rw [Nat.add_zero] at hv137_0; replace hv137_0 := Option.some.inj (hv137_0.symm.trans hx137_0); rw [hv137_0] at ge137_0; have HL137_0 := Aside0.mk (show Kd.R Kd.string 9 _ _ _ _ ((rd_T27 t123 x19_1).f0) from ge137_0); clear hv137_0 ge137_0; clear hcc137 hce137; have HR137_0 := Aside0.mk hi137_0; have HC137_0 := Aside0.mk hl137_0; clear hi137_0 hl137_0; replace p137 := eq_true p137; replace q137 := eq_true q137; obtain ⟨Ao33, co33, eo33⟩ := Kd.R_slice HO133.out; subst eo33) | ((with_reducible refine gate_callee (f := 9) rfl ?_); refine goesL_ (some 55) rfl rfl Try.func9 (by kernel_rfl) rfl #[.slice A137_0 ((rd_T27 t123 x19_1).f0).length c137_0, .slice Ao33 t129.length co33] rfl (by (try simp only [List.map_toArray, List.map_cons, List.map_nil]); first | done | rfl | (simp only [List.length_drop, List.length_take]; rfl)) ?_; (with_reducible refine (hushlaw16_sameTexts.calls k1 _ _ ((rd_T27 t123 x19_1).f0) _ _ t129 true _ ?side1 ?side2 ?side3 ?side4 A27.out).mono ?_); (case side1 => repeat (first | exact (by repeat (first | (with_reducible exact HR137_0.out) | (with_reducible refine Kd.C_alloc ?_ _) | (with_reducible refine Kd.C_drewN ?_ _) | (with_reducible refine Kd.C_drew ?_) | exact HR137_0.out)) | (with_reducible refine Kd.C_alloc ?_ _) | (with_reducible refine Kd.C_drewN ?_ _) | (with_reducible refine Kd.C_drew ?_))); (case side2 => exact HC137_0.out); (case side3 => repeat (first | exact (Kd.R_reads' HO133.out).2.2 | (with_reducible refine Kd.C_alloc ?_ _) | (with_reducible refine Kd.C_drewN ?_ _) | (with_reducible refine Kd.C_drew ?_))); (case side4 => exact (Kd.R_reads' HO133.out).2.1); rintro e w' ⟨rfl, ⟨nd, rfl⟩⟩; refine ⟨_, rfl, ?_⟩; have p139 : 0 ≤ (x19_1 : Int) := of_decide_eq_true (by first | (with_reducible assumption) | assumption); have q139 : x19_1 < (t123.length : Int) := of_decide_eq_true (by first | (with_reducible assumption) | assumption); obtain ⟨ad139, A139_0, c139_0, e139, hx139_0, hx139_1, hl139_0, hi139_0⟩ := at_T27 (Kd.S_reads' HO_3.out).2.2 x19_1 p139 q139; obtain rfl : ad137 = ad139 := (by injection e139); obtain ⟨ce139, hce139, hMe139, hcc139⟩ := Kd.S_get HO_3.out z27 x19_1 p139 (by first | exact q139 | exact of_decide_eq_true (by first | (with_reducible assumption) | assumption) | (have e_ := (Kd.S_reads' HO_3.out).1; omega)); obtain ⟨ve139_0, rfl, ge139_0⟩ := k27_openM hMe139; have hv139_0 := hcc139 0 _ rfl; rw [Nat.add_zero] at hv139_0; replace hv139_0 := Option.some.inj (hv139_0.symm.trans hx139_0); rw [hv139_0] at ge139_0; have HL139_0 := Aside0.mk (show Kd.R Kd.string 9 _ _ _ _ ((rd_T27 t123 x19_1).f0) from ge139_0); clear hv139_0 ge139_0; clear hcc139 hce139; have HR139_0 := Aside0.mk hi139_0; have HC139_0 := Aside0.mk hl139_0; clear hi139_0 hl139_0; replace p139 := eq_true p139; replace q139 := eq_true q139; have ea_ := Option.some.inj (hx137_0.symm.trans hx139_0); injection ea_ with ea_ en_ ec_; subst ea_; subst ec_; clear en_))
                          go_ret
                          exact ⟨by first | rfl | (simp [errW_none, errW_some] <;> rfl) | (simp [*, errW_none, errW_some] <;> rfl), by repeat (first | (with_reducible first | exact HB.out | apply below_alloc | apply pw_below_drewN | apply below_drew1) | exact HB.out)⟩
                      · replace c28 := Bool.eq_false_iff.mpr c28
                        subst c28
                        have H1 : (some false) = some r := by rw [if_neg (show ¬ (false = true) by decide)] at H; exact H
                        clear H
                        have H := H1
                        clear H1
                        obtain rfl := Option.some.inj H
                        have p126 : 0 ≤ (x19_1 : Int) := of_decide_eq_true (by first | (with_reducible assumption) | assumption)
                        have q126 : x19_1 < (l0.length : Int) := of_decide_eq_true (by first | (with_reducible assumption) | assumption)
                        obtain ⟨ad126, e126, hx126_0⟩ := Kd.at_string HR0.out x19_1 p126 q126
                        cases e126
                        replace hx126_0 := (HB.out.cell (World.block_lt_of_cell? w _ hx126_0)).trans hx126_0
                        replace p126 := eq_true p126
                        replace q126 := eq_true q126
                        go_wp2_with (first | ((with_reducible refine gate_callee (f := 8) rfl ?_); refine goesL_ (some 44) rfl rfl Try.func8 (by kernel_rfl) rfl #[.string (x4_1 ++ (rdOf ByteArray.empty l0 x19_1))] rfl (by (try simp only [List.map_toArray, List.map_cons, List.map_nil]); first | done | rfl | (simp only [List.length_drop, List.length_take]; rfl)) ?_; (with_reducible refine (hushref16_Feed.calls k1 (x4_1 ++ (rdOf ByteArray.empty l0 x19_1)) t129 t130 false _ A14.out).mono ?_); rintro e w34 ⟨v132, rfl, ho0, hb⟩; refine ⟨_, rfl, ?_⟩; have n0_ := Aside0.mk (Kd.S_elder' (by (with_reducible repeat (first | apply Kd.S_alloc | apply Kd.S_drewN | apply Kd.S_drew)); exact HO_3.out) (Kd.R_base ho0) hb); have n1_ := Aside0.mk (Kd.R_lower ho0 (below_size (by repeat (first | (with_reducible first | exact HB.out | apply below_alloc | apply pw_below_drewN | apply below_drew1) | exact HB.out)))); have n2_ := Aside0.mk (below_step (by repeat (first | (with_reducible first | exact HB.out | apply below_alloc | apply pw_below_drewN | apply below_drew1) | exact HB.out)) hb); clear HO_3; clear HB; have HO_3 := n0_; have HO133 := n1_; have HB := n2_; clear n0_ n1_ n2_; (try clear hb); (try clear hb2); (try clear hk); (try clear hi); (try clear ho0); have p137 : 0 ≤ (x19_1 : Int) := of_decide_eq_true (by first | (with_reducible assumption) | assumption); have q137 : x19_1 < (t123.length : Int) := of_decide_eq_true (by first | (with_reducible assumption) | assumption); obtain ⟨ad137, A137_0, c137_0, e137, hx137_0, hx137_1, hl137_0, hi137_0⟩ := at_T27 (Kd.S_reads' HO_3.out).2.2 x19_1 p137 q137; cases e137; obtain ⟨ce137, hce137, hMe137, hcc137⟩ := Kd.S_get HO_3.out z27 x19_1 p137 (by first | exact q137 | exact of_decide_eq_true (by first | (with_reducible assumption) | assumption) | (have e_ := (Kd.S_reads' HO_3.out).1; omega)); obtain ⟨ve137_0, rfl, ge137_0⟩ := k27_openM hMe137; have hv137_0 := hcc137 0 _ rfl; rw [Nat.add_zero] at hv137_0; replace hv137_0 := Option.some.inj (hv137_0.symm.trans hx137_0); rw [hv137_0] at ge137_0; have HL137_0 := Aside0.mk (show Kd.R Kd.string 9 _ _ _ _ ((rd_T27 t123 x19_1).f0) from ge137_0); clear hv137_0 ge137_0; clear hcc137 hce137; have HR137_0 := Aside0.mk hi137_0; have HC137_0 := Aside0.mk hl137_0; clear hi137_0 hl137_0; replace p137 := eq_true p137; replace q137 := eq_true q137; obtain ⟨Ao35, co35, eo35⟩ := Kd.R_slice HO133.out; subst eo35) | ((with_reducible refine gate_callee (f := 9) rfl ?_); refine goesL_ (some 55) rfl rfl Try.func9 (by kernel_rfl) rfl #[.slice A137_0 ((rd_T27 t123 x19_1).f0).length c137_0, .slice Ao35 t129.length co35] rfl (by (try simp only [List.map_toArray, List.map_cons, List.map_nil]); first | done | rfl | (simp only [List.length_drop, List.length_take]; rfl)) ?_; (with_reducible refine (hushlaw16_sameTexts.calls k1 _ _ ((rd_T27 t123 x19_1).f0) _ _ t129 false _ ?side1 ?side2 ?side3 ?side4 A27.out).mono ?_); (case side1 => repeat (first | exact (by repeat (first | (with_reducible exact HR137_0.out) | (with_reducible refine Kd.C_alloc ?_ _) | (with_reducible refine Kd.C_drewN ?_ _) | (with_reducible refine Kd.C_drew ?_) | exact HR137_0.out)) | (with_reducible refine Kd.C_alloc ?_ _) | (with_reducible refine Kd.C_drewN ?_ _) | (with_reducible refine Kd.C_drew ?_))); (case side2 => exact HC137_0.out); (case side3 => repeat (first | exact (Kd.R_reads' HO133.out).2.2 | (with_reducible refine Kd.C_alloc ?_ _) | (with_reducible refine Kd.C_drewN ?_ _) | (with_reducible refine Kd.C_drew ?_))); (case side4 => exact (Kd.R_reads' HO133.out).2.1); rintro e w' ⟨rfl, ⟨nd, rfl⟩⟩; refine ⟨_, rfl, ?_⟩))
                        go_ret
                        exact ⟨by first | rfl | (simp [errW_none, errW_some] <;> rfl) | (simp [*, errW_none, errW_some] <;> rfl), by repeat (first | (with_reducible first | exact HB.out | apply below_alloc | apply pw_below_drewN | apply below_drew1) | exact HB.out)⟩
                    · rw [if_neg c26] at H
                      exact absurd H (by simp)
                · rw [if_neg c13] at H
                  exact absurd H (by simp)
            · rw [if_neg c8] at H
              exact absurd H (by simp)
          · rw [if_neg c7] at H
            exact absurd H (by simp)
        · rw [if_neg c6] at H
          have c6b0 : decide (x19_1 < (l0.length : Int)) = false := decide_eq_false c6
          clear c6
          obtain rfl := Option.some.inj H
          go_wp2
          go_ret
          exact ⟨by first | rfl | (simp [errW_none, errW_some] <;> rfl) | (simp [*, errW_none, errW_some] <;> rfl), by repeat (first | (with_reducible first | exact HB.out | apply below_alloc | apply pw_below_drewN | apply below_drew1) | exact HB.out)⟩
  · rw [if_neg c3] at H
    have c3b0 : ((t123.length : Int) == (l0.length : Int)) = false := beq_eq_false_iff_ne.mpr c3
    have c3b1 : ((t123.length : Int) != (l0.length : Int)) = true := bne_iff_ne.mpr c3
    have c3b2 : (t123.length == l0.length) = false := by first | simpa using c3 | (simp at c3 ⊢; omega)
    obtain rfl := Option.some.inj H
    go_enter Try.func3, Try.ntmps3
    go_wp2_with (first | ((with_reducible refine gate_callee (f := 7) rfl ?_); refine goesL_ (some 11) rfl rfl Try.func7 (by kernel_rfl) rfl #[.slice A0 l0.length c0] rfl (by (try simp only [List.map_toArray, List.map_cons, List.map_nil]); first | done | rfl | (simp only [List.length_drop, List.length_take]; rfl)) ?_; (with_reducible refine (plain_Crumbs.calls k _ _ l0 t123 _ ?side1 ?side2 A2.out).mono ?_); (case side1 => repeat (first | exact HR0.out | (with_reducible refine Kd.C_alloc ?_ _) | (with_reducible refine Kd.C_drewN ?_ _) | (with_reducible refine Kd.C_drew ?_))); (case side2 => exact HC0.out); rintro e w36 ⟨v124, rfl, ho0, hb⟩; refine ⟨_, rfl, ?_⟩; have n0_ := Aside0.mk (Kd.S_lower ho0 (below_size (by repeat (first | (with_reducible first | exact HB.out | apply below_alloc | apply pw_below_drewN | apply below_drew1) | exact HB.out)))); have n1_ := Aside0.mk (below_step (by repeat (first | (with_reducible first | exact HB.out | apply below_alloc | apply pw_below_drewN | apply below_drew1) | exact HB.out)) hb); clear HB; have HO125 := n0_; have HB := n1_; clear n0_ n1_; (try clear hb); (try clear hb2); (try clear hk); (try clear hi); (try clear ho0); obtain ⟨Ao37, co37, eo37⟩ := Kd.S_slice HO125.out; subst eo37))
    go_ret
    exact ⟨by first | rfl | (simp [errW_none, errW_some] <;> rfl) | (simp [*, errW_none, errW_some] <;> rfl), by repeat (first | (with_reducible first | exact HB.out | apply below_alloc | apply pw_below_drewN | apply below_drew1) | exact HB.out)⟩

/-- THE PURE STATEMENT of hushlaw16_WireFeeds. -/
def hushlaw16_WireFeeds.Pure : Prop := ∀ (p0 : List ByteArray), (p0.length ≤ maxLen ∧ p0.length * 16 ≤ 140737488351232 ∧ ∀ z2 ∈ p0, z2.size ≤ 140737488351232) → ((p0.map (fun z2 => (z2.size + 1))).sum + 1) ≤ 1048576 → ∃ k, hushlaw16_WireFeeds.f k p0 = some true

end Go.Proofs.Ytdfeidpkdbleaaa.PA

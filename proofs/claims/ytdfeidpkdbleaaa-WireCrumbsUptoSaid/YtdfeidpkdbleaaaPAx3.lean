/- Functions of the translated program as Lean functions, and what their calls come to: written by this session's own program (wip/xprint.py) over the kit's print. Conditions stand in each theorem. -/
import Derived.Test.YtdfeidpkdbleaaaPAx0
import Derived.Test.YtdfeidpkdbleaaaPAx2
namespace Go.Proofs.Ytdfeidpkdbleaaa.PA
open Go.RowKit Go.Proofs.YtdfeidpkdbleaaaW.PrintWords Go.Proofs.YtdfeidpkdbleaaaW.PrintLast Go.Proofs.YtdfeidpkdbleaaaW.PrintMore
attribute [local go_sem] max2_int min2_int max_two min_two max_three min_three max_four min_four   -- for this text's walks alone
set_option linter.unusedVariables false
set_option linter.unusedSimpArgs false

/-! ### wire_Stream_Feed: function 19 -/
mutual
def wire_Stream_Feed.l0 : Nat → List ByteArray → ByteArray → Bool → Option (List ByteArray × Int × ByteArray × Bool)
  | 0, _, _, _ => none
  | k + 1, x6, x1000, x1001 => if (x1000.size : Int) ≥ 4 then (if 0 < (x1000.size : Int) then (if 1 < (x1000.size : Int) then (if 2 < (x1000.size : Int) then (if 3 < (x1000.size : Int) then (if (Go.bits .or .i64 (Go.bits .or .i64 (Go.bits .or .i64 (wrap64 ((wrap64 (bt x1000 0)) * 16777216)) (wrap64 ((wrap64 (bt x1000 1)) * 65536))) (wrap64 ((wrap64 (bt x1000 2)) * 256))) (wrap64 (bt x1000 3))) = 0 then (wire_Stream_Feed.j1 k x6 (Go.bits .or .i64 (Go.bits .or .i64 (Go.bits .or .i64 (wrap64 ((wrap64 (bt x1000 0)) * 16777216)) (wrap64 ((wrap64 (bt x1000 1)) * 65536))) (wrap64 ((wrap64 (bt x1000 2)) * 256))) (wrap64 (bt x1000 3))) true x1000 x1001) else (wire_Stream_Feed.j1 k x6 (Go.bits .or .i64 (Go.bits .or .i64 (Go.bits .or .i64 (wrap64 ((wrap64 (bt x1000 0)) * 16777216)) (wrap64 ((wrap64 (bt x1000 1)) * 65536))) (wrap64 ((wrap64 (bt x1000 2)) * 256))) (wrap64 (bt x1000 3))) (decide ((Go.bits .or .i64 (Go.bits .or .i64 (Go.bits .or .i64 (wrap64 ((wrap64 (bt x1000 0)) * 16777216)) (wrap64 ((wrap64 (bt x1000 1)) * 65536))) (wrap64 ((wrap64 (bt x1000 2)) * 256))) (wrap64 (bt x1000 3))) > 65536)) x1000 x1001)) else (none)) else (none)) else (none)) else (none)) else (some (x6, 0, x1000, x1001))
def wire_Stream_Feed.j1 : Nat → List ByteArray → Int → Bool → ByteArray → Bool → Option (List ByteArray × Int × ByteArray × Bool)
  | 0, _, _, _, _, _ => none
  | k + 1, x6, x7, x61, x1000, x1001 => if x61 = true then (some (x6, 2, (⟨#[]⟩ : ByteArray), true)) else (if (x1000.size : Int) < (wrap64 (4 + x7)) then (some (x6, 0, x1000, x1001)) else (if 4 ≤ (wrap64 (4 + x7)) then (if (wrap64 (4 + x7)) ≤ (x1000.size : Int) then (if x6.length < 8796093022208 then (if 0 ≤ (wrap64 (4 + x7)) then (wire_Stream_Feed.l0 k (x6 ++ [x1000.extract 4 ((wrap64 (4 + x7)) : Int).toNat]) (x1000.extract ((wrap64 (4 + x7)) : Int).toNat x1000.size) x1001) else (none)) else (none)) else (none)) else (none)))
end
def wire_Stream_Feed.f (k : Nat) (s0_0 : ByteArray) (s0_1 : Bool) (a1 : ByteArray) : Option (List ByteArray × Int × ByteArray × Bool) := if s0_1 = true then (some (([] : List ByteArray), 9, s0_0, s0_1)) else (if s0_0.size + a1.size ≤ 9223372036854775807 then (wire_Stream_Feed.l0 k ([] : List ByteArray) (s0_0 ++ a1) s0_1) else (none))
theorem wire_Stream_Feed.mono_l : ∀ k, (∀ y0 y1 y2, LeO (wire_Stream_Feed.l0 k y0 y1 y2) (wire_Stream_Feed.l0 (k + 1) y0 y1 y2)) ∧ (∀ y0 y1 y2 y3 y4, LeO (wire_Stream_Feed.j1 k y0 y1 y2 y3 y4) (wire_Stream_Feed.j1 (k + 1) y0 y1 y2 y3 y4))
  | 0 => ⟨fun _ _ _ r h => by simp [wire_Stream_Feed.l0] at h, fun _ _ _ _ _ r h => by simp [wire_Stream_Feed.j1] at h⟩
  | k + 1 => by
    obtain ⟨ih0, ih1⟩ := wire_Stream_Feed.mono_l k
    refine ⟨?_, ?_⟩
    · intro y0 y1 y2
      unfold wire_Stream_Feed.l0
      repeat' first
      | (with_reducible exact ih0 _ _ _)
      | (with_reducible exact ih1 _ _ _ _ _)
      | (with_reducible exact LeO.refl _)
      | (with_reducible exact LeO.none _)
      | (with_reducible refine LeO.ite ?_ ?_)
      | (with_reducible refine LeO.bind ?_ (fun _ => ?_))
      | exact ih0 _ _ _
      | exact ih1 _ _ _ _ _
      | exact LeO.none _
      | refine LeO.ite ?_ ?_
      | refine LeO.bind ?_ (fun _ => ?_)
    · intro y0 y1 y2 y3 y4
      unfold wire_Stream_Feed.j1
      repeat' first
      | (with_reducible exact ih0 _ _ _)
      | (with_reducible exact ih1 _ _ _ _ _)
      | (with_reducible exact LeO.refl _)
      | (with_reducible exact LeO.none _)
      | (with_reducible refine LeO.ite ?_ ?_)
      | (with_reducible refine LeO.bind ?_ (fun _ => ?_))
      | exact ih0 _ _ _
      | exact ih1 _ _ _ _ _
      | exact LeO.none _
      | refine LeO.ite ?_ ?_
      | refine LeO.bind ?_ (fun _ => ?_)
theorem wire_Stream_Feed.mono : ∀ a0 a1 a2 k, LeO (wire_Stream_Feed.f k a0 a1 a2) (wire_Stream_Feed.f (k + 1) a0 a1 a2) := by
  intro a0 a1 a2 k
  obtain ⟨ih0, ih1⟩ := wire_Stream_Feed.mono_l k
  unfold wire_Stream_Feed.f
  repeat' first
      | (with_reducible exact ih0 _ _ _)
      | (with_reducible exact ih1 _ _ _ _ _)
      | (with_reducible exact LeO.refl _)
      | (with_reducible exact LeO.none _)
      | (with_reducible refine LeO.ite ?_ ?_)
      | (with_reducible refine LeO.bind ?_ (fun _ => ?_))
      | exact ih0 _ _ _
      | exact ih1 _ _ _ _ _
      | exact LeO.none _
      | refine LeO.ite ?_ ?_
      | refine LeO.bind ?_ (fun _ => ?_)
set_option maxHeartbeats 8000000 in
set_option maxRecDepth 100000 in
theorem wire_Stream_Feed.calls (k : Nat) (g : Nat) (s0_0 : ByteArray) (s0_1 : Bool) (a1 : ByteArray) (r1 : List ByteArray) (r2 : Int) (r3 : ByteArray) (r4 : Bool) (w0 w : World) (hI : IsS86 w0 w g s0_0 s0_1) (hB : Below w0.heap.size w0 w) (h : wire_Stream_Feed.f k s0_0 s0_1 a1 = some (r1, r2, r3, r4)) :
    Calls Try.prog 19 #[.pointer (some ⟨g, 0, none⟩), .string a1] w fun e w' => ∃ v0_ : Value, e = .returned (.tuple #[v0_, .int .i64 r2]) ∧ Kd.R Kd.string 9 w' w.heap.size (fun _ => True) v0_ r1 ∧ IsS86 w0 w' g r3 r4 ∧ Below w0.heap.size w0 w' ∧ KeepBut w w' g none := by
  have HI0 := Aside0.mk hI
  have HK := Aside0.mk (KeepBut.refl w g none)
  have HL := Aside0.mk hB.size
  clear hI
  have HW0 := Aside0.mk hB.size
  have HB := Aside0.mk hB
  clear hB
  have H : (if s0_1 = true then (some (([] : List ByteArray), 9, s0_0, s0_1)) else (if s0_0.size + a1.size ≤ 9223372036854775807 then (wire_Stream_Feed.l0 k ([] : List ByteArray) (s0_0 ++ a1) s0_1) else (none))) = some (r1, r2, r3, r4) := h
  clear h
  by_cases c3 : s0_1 = true
  · subst c3
    have H1 : (some (([] : List ByteArray), 9, s0_0, true)) = some (r1, r2, r3, r4) := by rw [if_pos rfl] at H; exact H
    clear H
    have H := H1
    clear H1
    simp only [Option.some.injEq, Prod.mk.injEq] at H
    obtain ⟨rfl, rfl, rfl, rfl⟩ := H
    obtain ⟨HGz4, hgz4⟩ := HI0.out
    have hcz4_0 := cellS86_0 HGz4
    have hcz4_1 := cellS86_1 HGz4
    have hfz4_0 := blk_frozen HGz4 0
    have hfz4_1 := blk_frozen HGz4 1
    clear HGz4 hgz4
    go_enter Try.func19, Try.ntmps19
    go_wp2
    repeat (go_quiet (fail); try go_wp2)
    go_ret2
    exact ⟨_, by first | rfl | (simp [errW_none, errW_some] <;> rfl) | (simp [*, errW_none, errW_some] <;> rfl), by first | exact Kd.R_nil _ _ _ _ _ | exact Kd.N_nil _ _ _ _ _ | exact Kd.V_nil _ _ _ _ _ | exact Kd.Q_nil _ _ _ _ _ | exact Kd.S_nil _ _ _ _ _, by repeat (first | (with_reducible first | exact HI0.out | apply IsS86.alloc | apply IsS86.drewN | apply IsS86.drew | apply IsS86.set_0 | apply IsS86.set_1) | exact HI0.out), by repeat (first | (with_reducible first | exact HB.out | apply below_alloc | apply pw_below_drewN | apply below_drew1 | refine below_set ?_ (IsS86.ge HI0.out)) | exact HB.out), by repeat (first | (with_reducible first | exact HK.out | apply KeepBut.set_ | apply keep_drewN | apply keep_drew | apply keep_alloc) | exact HK.out)⟩
  · replace c3 := Bool.eq_false_iff.mpr c3
    subst c3
    have H1 : (if s0_0.size + a1.size ≤ 9223372036854775807 then (wire_Stream_Feed.l0 k ([] : List ByteArray) (s0_0 ++ a1) false) else (none)) = some (r1, r2, r3, r4) := by rw [if_neg (show ¬ (false = true) by decide)] at H; exact H
    clear H
    have H := H1
    clear H1
    by_cases c5 : s0_0.size + a1.size ≤ 9223372036854775807
    · rw [if_pos c5] at H
      have c5b0 := eq_true c5
      have c5b1 : decide (s0_0.size + a1.size ≤ 9223372036854775807) = true := decide_eq_true c5
      try have c5b2 : (9223372036854775807 < s0_0.size + a1.size) = False := eq_false (Nat.not_lt.2 c5)
      have H' := Aside0.mk H
      clear H
      obtain ⟨HGz6, hgz6⟩ := HI0.out
      have hcz6_0 := cellS86_0 HGz6
      have hcz6_1 := cellS86_1 HGz6
      have hfz6_0 := blk_frozen HGz6 0
      have hfz6_1 := blk_frozen HGz6 1
      clear HGz6 hgz6
      go_enter Try.func19, Try.ntmps19
      go_wp2
      repeat (go_quiet (fail); try go_wp2)
      go_loopg [6] k (fun kq v6 w' => ∃ (x6_1 : List ByteArray) (x1000_1 : ByteArray) (x1001_1 : Bool), Aside0 (wire_Stream_Feed.l0 kq x6_1 x1000_1 x1001_1 = some (r1, r2, r3, r4)) ∧ Aside0 (kq ≤ k) ∧ Aside0 (Kd.R Kd.string 9 w' w.heap.size (fun _ => True) v6 x6_1) ∧ Aside0 (IsS86 w0 w' g x1000_1 x1001_1) ∧ Aside0 (KeepBut w w' g none) ∧ Aside0 (Below w0.heap.size w0 w'))
      case atStart => exact ⟨(([] : List ByteArray)), (s0_0 ++ a1), (false), H', ⟨Nat.le_refl _⟩, ⟨by first | exact Kd.R_nil _ _ _ _ _ | exact Kd.N_nil _ _ _ _ _ | exact Kd.V_nil _ _ _ _ _ | exact Kd.Q_nil _ _ _ _ _ | exact Kd.S_nil _ _ _ _ _⟩, ⟨by repeat (first | (with_reducible first | exact HI0.out | apply IsS86.alloc | apply IsS86.drewN | apply IsS86.drew | apply IsS86.set_0 | apply IsS86.set_1) | exact HI0.out)⟩, ⟨by repeat (first | (with_reducible first | exact HK.out | apply KeepBut.set_ | apply keep_drewN | apply keep_drew | apply keep_alloc) | exact HK.out)⟩, ⟨by repeat (first | (with_reducible first | exact HB.out | apply below_alloc | apply pw_below_drewN | apply below_drew1 | refine below_set ?_ (IsS86.ge HI0.out)) | exact HB.out)⟩⟩
      case round =>
        clear H'
        try clear c1
        try clear p2
        try clear c3
        try clear c5
        try clear c5b0
        try clear c5b1
        try clear c5b2
        try clear hcz4_0
        try clear hcz4_1
        try clear hcz6_0
        try clear hcz6_1
        try clear hfz4_0
        try clear hfz4_1
        try clear hfz6_0
        try clear hfz6_1
        obtain ⟨x6_1, x1000_1, x1001_1, HA, HK1, HO_6, HI0, HK, HB⟩ := hrel
        cases gk with
        | zero => exact absurd HA.out (by simp [wire_Stream_Feed.l0])
        | succ k1 =>
          have H := HA.out
          clear HA
          simp only [wire_Stream_Feed.l0] at H
          by_cases c7 : (x1000_1.size : Int) ≥ 4
          · rw [if_pos c7] at H
            have c7b0 : decide (4 ≤ (x1000_1.size : Int)) = true := decide_eq_true c7
            have c7b1 : decide (4 ≤ x1000_1.size) = true := decide_eq_true (by omega)
            clear c7
            by_cases c8 : 0 < (x1000_1.size : Int)
            · rw [if_pos c8] at H
              have c8b0 : decide (0 < (x1000_1.size : Int)) = true := decide_eq_true c8
              have c8b1 : decide (0 < x1000_1.size) = true := decide_eq_true (by omega)
              clear c8
              by_cases c10 : 1 < (x1000_1.size : Int)
              · rw [if_pos c10] at H
                have c10b0 : decide (1 < (x1000_1.size : Int)) = true := decide_eq_true c10
                have c10b1 : decide (1 < x1000_1.size) = true := decide_eq_true (by omega)
                clear c10
                by_cases c12 : 2 < (x1000_1.size : Int)
                · rw [if_pos c12] at H
                  have c12b0 : decide (2 < (x1000_1.size : Int)) = true := decide_eq_true c12
                  have c12b1 : decide (2 < x1000_1.size) = true := decide_eq_true (by omega)
                  clear c12
                  by_cases c14 : 3 < (x1000_1.size : Int)
                  · rw [if_pos c14] at H
                    have c14b0 : decide (3 < (x1000_1.size : Int)) = true := decide_eq_true c14
                    have c14b1 : decide (3 < x1000_1.size) = true := decide_eq_true (by omega)
                    clear c14
                    have HC16 := Aside0.mk H
                    clear H
                    obtain ⟨HGz17, hgz17⟩ := HI0.out
                    have hcz17_0 := cellS86_0 HGz17
                    have hcz17_1 := cellS86_1 HGz17
                    have hfz17_0 := blk_frozen HGz17 0
                    have hfz17_1 := blk_frozen HGz17 1
                    clear HGz17 hgz17
                    have p9 : 0 ≤ (0 : Int) := (by omega)
                    have q9 : 0 < x1000_1.size := (by have : (0 : Int) < (x1000_1.size : Int) := of_decide_eq_true (by first | (with_reducible assumption) | assumption); omega)
                    have hx9 : ∀ h : 0 < x1000_1.size, ((x1000_1[0]'h).toNat : Int) = bt x1000_1 0 := bt_at x1000_1 0
                    clear p9
                    have qi9 : (0 < (x1000_1.size : Int)) = True := eq_true (of_decide_eq_true (by first | (with_reducible assumption) | assumption))
                    replace q9 := eq_true q9
                    have p11 : 0 ≤ (1 : Int) := (by omega)
                    have q11 : 1 < x1000_1.size := (by have : (1 : Int) < (x1000_1.size : Int) := of_decide_eq_true (by first | (with_reducible assumption) | assumption); omega)
                    have hx11 : ∀ h : 1 < x1000_1.size, ((x1000_1[1]'h).toNat : Int) = bt x1000_1 1 := bt_at x1000_1 1
                    clear p11
                    have qi11 : (1 < (x1000_1.size : Int)) = True := eq_true (of_decide_eq_true (by first | (with_reducible assumption) | assumption))
                    replace q11 := eq_true q11
                    have p13 : 0 ≤ (2 : Int) := (by omega)
                    have q13 : 2 < x1000_1.size := (by have : (2 : Int) < (x1000_1.size : Int) := of_decide_eq_true (by first | (with_reducible assumption) | assumption); omega)
                    have hx13 : ∀ h : 2 < x1000_1.size, ((x1000_1[2]'h).toNat : Int) = bt x1000_1 2 := bt_at x1000_1 2
                    clear p13
                    have qi13 : (2 < (x1000_1.size : Int)) = True := eq_true (of_decide_eq_true (by first | (with_reducible assumption) | assumption))
                    replace q13 := eq_true q13
                    have p15 : 0 ≤ (3 : Int) := (by omega)
                    have q15 : 3 < x1000_1.size := (by have : (3 : Int) < (x1000_1.size : Int) := of_decide_eq_true (by first | (with_reducible assumption) | assumption); omega)
                    have hx15 : ∀ h : 3 < x1000_1.size, ((x1000_1[3]'h).toNat : Int) = bt x1000_1 3 := bt_at x1000_1 3
                    clear p15
                    have qi15 : (3 < (x1000_1.size : Int)) = True := eq_true (of_decide_eq_true (by first | (with_reducible assumption) | assumption))
                    replace q15 := eq_true q15
                    go_upto_region 7 with (fail)
                    repeat (go_quiet (fail); go_upto_region 7 with (fail))
                    go_cut [61] (fun v61 wc => ∃ (kq : Nat) (x61_15 : Bool), v61 = .bool x61_15 ∧ Aside0 (wire_Stream_Feed.j1 kq x6_1 (Go.bits .or .i64 (Go.bits .or .i64 (Go.bits .or .i64 (wrap64 ((wrap64 (bt x1000_1 0)) * 16777216)) (wrap64 ((wrap64 (bt x1000_1 1)) * 65536))) (wrap64 ((wrap64 (bt x1000_1 2)) * 256))) (wrap64 (bt x1000_1 3))) x61_15 x1000_1 x1001_1 = some (r1, r2, r3, r4)) ∧ Aside0 (kq ≤ k1) ∧ Aside0 (Kd.R Kd.string 9 wc w.heap.size (fun _ => True) u6 x6_1) ∧ Aside0 (IsS86 w0 wc g x1000_1 x1001_1) ∧ Aside0 (KeepBut w wc g none) ∧ Aside0 (Below w0.heap.size w0 wc))
                    case first =>
                      have H := HC16.out
                      clear HC16
                      by_cases c18 : (Go.bits .or .i64 (Go.bits .or .i64 (Go.bits .or .i64 (wrap64 ((wrap64 (bt x1000_1 0)) * 16777216)) (wrap64 ((wrap64 (bt x1000_1 1)) * 65536))) (wrap64 ((wrap64 (bt x1000_1 2)) * 256))) (wrap64 (bt x1000_1 3))) = 0
                      · rw [if_pos c18] at H
                        have c18b0 : ((Go.bits .or .i64 (Go.bits .or .i64 (Go.bits .or .i64 (wrap64 ((wrap64 (bt x1000_1 0)) * 16777216)) (wrap64 ((wrap64 (bt x1000_1 1)) * 65536))) (wrap64 ((wrap64 (bt x1000_1 2)) * 256))) (wrap64 (bt x1000_1 3))) == 0) = true := beq_iff_eq.mpr c18
                        have c18b1 : ((Go.bits .or .i64 (Go.bits .or .i64 (Go.bits .or .i64 (wrap64 ((wrap64 (bt x1000_1 0)) * 16777216)) (wrap64 ((wrap64 (bt x1000_1 1)) * 65536))) (wrap64 ((wrap64 (bt x1000_1 2)) * 256))) (wrap64 (bt x1000_1 3))) != 0) = false := bne_eq_false_iff_eq.mpr c18
                        clear c18
                        (first | rw [c18b0] | (simp only [i64_w, i32_w]; rw [c18b0]) | skip)
                        have H' := Aside0.mk H
                        clear H
                        go_wp2
                        repeat (go_quiet (fail); try go_wp2)
                        go_meet
                        case rel => exact ⟨_, (true), (by first | rfl | (simp; done) | (simp [*]; done)), H', ⟨by have := HK1.out; first | omega | exact Nat.le_refl _⟩, ⟨by (with_reducible repeat (first | apply Kd.R_alloc | apply Kd.R_drewN | apply Kd.R_drew)); exact HO_6.out⟩, ⟨by repeat (first | (with_reducible first | exact HI0.out | apply IsS86.alloc | apply IsS86.drewN | apply IsS86.drew | apply IsS86.set_0 | apply IsS86.set_1) | exact HI0.out)⟩, ⟨by repeat (first | (with_reducible first | exact HK.out | apply KeepBut.set_ | apply keep_drewN | apply keep_drew | apply keep_alloc) | exact HK.out)⟩, ⟨by repeat (first | (with_reducible first | exact HB.out | apply below_alloc | apply pw_below_drewN | apply below_drew1 | refine below_set ?_ (IsS86.ge HI0.out)) | exact HB.out)⟩⟩
                      · rw [if_neg c18] at H
                        have c18b0 : ((Go.bits .or .i64 (Go.bits .or .i64 (Go.bits .or .i64 (wrap64 ((wrap64 (bt x1000_1 0)) * 16777216)) (wrap64 ((wrap64 (bt x1000_1 1)) * 65536))) (wrap64 ((wrap64 (bt x1000_1 2)) * 256))) (wrap64 (bt x1000_1 3))) == 0) = false := beq_eq_false_iff_ne.mpr c18
                        have c18b1 : ((Go.bits .or .i64 (Go.bits .or .i64 (Go.bits .or .i64 (wrap64 ((wrap64 (bt x1000_1 0)) * 16777216)) (wrap64 ((wrap64 (bt x1000_1 1)) * 65536))) (wrap64 ((wrap64 (bt x1000_1 2)) * 256))) (wrap64 (bt x1000_1 3))) != 0) = true := bne_iff_ne.mpr c18
                        (first | rw [c18b0] | (simp only [i64_w, i32_w]; rw [c18b0]) | skip)
                        have H' := Aside0.mk H
                        clear H
                        go_wp2
                        repeat (go_quiet (fail); try go_wp2)
                        go_meet
                        case rel => exact ⟨_, (decide ((Go.bits .or .i64 (Go.bits .or .i64 (Go.bits .or .i64 (wrap64 ((wrap64 (bt x1000_1 0)) * 16777216)) (wrap64 ((wrap64 (bt x1000_1 1)) * 65536))) (wrap64 ((wrap64 (bt x1000_1 2)) * 256))) (wrap64 (bt x1000_1 3))) > 65536)), (by first | rfl | (simp; done) | (simp [*]; done)), H', ⟨by have := HK1.out; first | omega | exact Nat.le_refl _⟩, ⟨by (with_reducible repeat (first | apply Kd.R_alloc | apply Kd.R_drewN | apply Kd.R_drew)); exact HO_6.out⟩, ⟨by repeat (first | (with_reducible first | exact HI0.out | apply IsS86.alloc | apply IsS86.drewN | apply IsS86.drew | apply IsS86.set_0 | apply IsS86.set_1) | exact HI0.out)⟩, ⟨by repeat (first | (with_reducible first | exact HK.out | apply KeepBut.set_ | apply keep_drewN | apply keep_drew | apply keep_alloc) | exact HK.out)⟩, ⟨by repeat (first | (with_reducible first | exact HB.out | apply below_alloc | apply pw_below_drewN | apply below_drew1 | refine below_set ?_ (IsS86.ge HI0.out)) | exact HB.out)⟩⟩
                    case rest =>
                      clear HC16
                      try clear c1
                      try clear p1
                      try clear q1
                      try clear hx1
                      try clear qi1
                      try clear p2
                      try clear c3
                      try clear c5
                      try clear c5b0
                      try clear c5b1
                      try clear c5b2
                      try clear p6
                      try clear c7
                      try clear c7b0
                      try clear c7b1
                      try clear c8
                      try clear c8b0
                      try clear c8b1
                      try clear p9
                      try clear q9
                      try clear hx9
                      try clear qi9
                      try clear c10
                      try clear c10b0
                      try clear c10b1
                      try clear p11
                      try clear q11
                      try clear hx11
                      try clear qi11
                      try clear c12
                      try clear c12b0
                      try clear c12b1
                      try clear p13
                      try clear q13
                      try clear hx13
                      try clear qi13
                      try clear c14
                      try clear c14b0
                      try clear c14b1
                      try clear p15
                      try clear q15
                      try clear hx15
                      try clear qi15
                      try clear c18
                      try clear c18b0
                      try clear c18b1
                      try clear hcz17_0
                      try clear hcz17_1
                      try clear hcz4_0
                      try clear hcz4_1
                      try clear hcz6_0
                      try clear hcz6_1
                      try clear hfz17_0
                      try clear hfz17_1
                      try clear hfz4_0
                      try clear hfz4_1
                      try clear hfz6_0
                      try clear hfz6_1
                      try clear p11
                      try clear p13
                      try clear p15
                      try clear p2
                      try clear p9
                      try clear q11
                      try clear q13
                      try clear q15
                      try clear q9
                      obtain ⟨kq, x61_15, rfl, HA, HJ15, HO_6, HI0, HK, HB⟩ := hcut
                      cases kq with
                      | zero => exact absurd HA.out (by simp [wire_Stream_Feed.j1])
                      | succ kj15 =>
                        have H := HA.out
                        clear HA
                        simp only [wire_Stream_Feed.j1] at H
                        by_cases c19 : x61_15 = true
                        · subst c19
                          have H1 : (some (x6_1, 2, (⟨#[]⟩ : ByteArray), true)) = some (r1, r2, r3, r4) := by rw [if_pos rfl] at H; exact H
                          clear H
                          have H := H1
                          clear H1
                          simp only [Option.some.injEq, Prod.mk.injEq] at H
                          obtain ⟨rfl, rfl, rfl, rfl⟩ := H
                          obtain ⟨HGz20, hgz20⟩ := HI0.out
                          have hcz20_0 := cellS86_0 HGz20
                          have hcz20_1 := cellS86_1 HGz20
                          have hfz20_0 := blk_frozen HGz20 0
                          have hfz20_1 := blk_frozen HGz20 1
                          clear HGz20 hgz20
                          go_wp2
                          repeat (go_quiet (fail); try go_wp2)
                          go_ret2
                          exact ⟨_, by first | rfl | (simp [errW_none, errW_some] <;> rfl) | (simp [*, errW_none, errW_some] <;> rfl), by (with_reducible repeat (first | apply Kd.R_alloc | apply Kd.R_drewN | apply Kd.R_drew)); exact Kd.R_mono (Kd.R_far (p := ⟨g, 0, none⟩) (Kd.R_far (p := ⟨g, 1, none⟩) (IsS86.apart HI0.out HO_6.out (by decide)) (fun _ hk => hk.2) (.bool true)) (fun _ hk => hk.2) (.string (⟨#[]⟩ : ByteArray))) (fun _ hk => trivial), by repeat (first | (with_reducible first | exact HI0.out | apply IsS86.alloc | apply IsS86.drewN | apply IsS86.drew | apply IsS86.set_0 | apply IsS86.set_1) | exact HI0.out), by repeat (first | (with_reducible first | exact HB.out | apply below_alloc | apply pw_below_drewN | apply below_drew1 | refine below_set ?_ (IsS86.ge HI0.out)) | exact HB.out), by repeat (first | (with_reducible first | exact HK.out | apply KeepBut.set_ | apply keep_drewN | apply keep_drew | apply keep_alloc) | exact HK.out)⟩
                        · replace c19 := Bool.eq_false_iff.mpr c19
                          subst c19
                          have H1 : (if (x1000_1.size : Int) < (wrap64 (4 + (Go.bits .or .i64 (Go.bits .or .i64 (Go.bits .or .i64 (wrap64 ((wrap64 (bt x1000_1 0)) * 16777216)) (wrap64 ((wrap64 (bt x1000_1 1)) * 65536))) (wrap64 ((wrap64 (bt x1000_1 2)) * 256))) (wrap64 (bt x1000_1 3))))) then (some (x6_1, 0, x1000_1, x1001_1)) else (if 4 ≤ (wrap64 (4 + (Go.bits .or .i64 (Go.bits .or .i64 (Go.bits .or .i64 (wrap64 ((wrap64 (bt x1000_1 0)) * 16777216)) (wrap64 ((wrap64 (bt x1000_1 1)) * 65536))) (wrap64 ((wrap64 (bt x1000_1 2)) * 256))) (wrap64 (bt x1000_1 3))))) then (if (wrap64 (4 + (Go.bits .or .i64 (Go.bits .or .i64 (Go.bits .or .i64 (wrap64 ((wrap64 (bt x1000_1 0)) * 16777216)) (wrap64 ((wrap64 (bt x1000_1 1)) * 65536))) (wrap64 ((wrap64 (bt x1000_1 2)) * 256))) (wrap64 (bt x1000_1 3))))) ≤ (x1000_1.size : Int) then (if x6_1.length < 8796093022208 then (if 0 ≤ (wrap64 (4 + (Go.bits .or .i64 (Go.bits .or .i64 (Go.bits .or .i64 (wrap64 ((wrap64 (bt x1000_1 0)) * 16777216)) (wrap64 ((wrap64 (bt x1000_1 1)) * 65536))) (wrap64 ((wrap64 (bt x1000_1 2)) * 256))) (wrap64 (bt x1000_1 3))))) then (wire_Stream_Feed.l0 kj15 (x6_1 ++ [x1000_1.extract 4 ((wrap64 (4 + (Go.bits .or .i64 (Go.bits .or .i64 (Go.bits .or .i64 (wrap64 ((wrap64 (bt x1000_1 0)) * 16777216)) (wrap64 ((wrap64 (bt x1000_1 1)) * 65536))) (wrap64 ((wrap64 (bt x1000_1 2)) * 256))) (wrap64 (bt x1000_1 3))))) : Int).toNat]) (x1000_1.extract ((wrap64 (4 + (Go.bits .or .i64 (Go.bits .or .i64 (Go.bits .or .i64 (wrap64 ((wrap64 (bt x1000_1 0)) * 16777216)) (wrap64 ((wrap64 (bt x1000_1 1)) * 65536))) (wrap64 ((wrap64 (bt x1000_1 2)) * 256))) (wrap64 (bt x1000_1 3))))) : Int).toNat x1000_1.size) x1001_1) else (none)) else (none)) else (none)) else (none))) = some (r1, r2, r3, r4) := by rw [if_neg (show ¬ (false = true) by decide)] at H; exact H
                          clear H
                          have H := H1
                          clear H1
                          by_cases c21 : (x1000_1.size : Int) < (wrap64 (4 + (Go.bits .or .i64 (Go.bits .or .i64 (Go.bits .or .i64 (wrap64 ((wrap64 (bt x1000_1 0)) * 16777216)) (wrap64 ((wrap64 (bt x1000_1 1)) * 65536))) (wrap64 ((wrap64 (bt x1000_1 2)) * 256))) (wrap64 (bt x1000_1 3)))))
                          · rw [if_pos c21] at H
                            have c21b0 : decide ((x1000_1.size : Int) < (wrap64 (4 + (Go.bits .or .i64 (Go.bits .or .i64 (Go.bits .or .i64 (wrap64 ((wrap64 (bt x1000_1 0)) * 16777216)) (wrap64 ((wrap64 (bt x1000_1 1)) * 65536))) (wrap64 ((wrap64 (bt x1000_1 2)) * 256))) (wrap64 (bt x1000_1 3)))))) = true := decide_eq_true c21
                            clear c21
                            simp only [Option.some.injEq, Prod.mk.injEq] at H
                            obtain ⟨rfl, rfl, rfl, rfl⟩ := H
                            obtain ⟨HGz22, hgz22⟩ := HI0.out
                            have hcz22_0 := cellS86_0 HGz22
                            have hcz22_1 := cellS86_1 HGz22
                            have hfz22_0 := blk_frozen HGz22 0
                            have hfz22_1 := blk_frozen HGz22 1
                            clear HGz22 hgz22
                            go_wp2
                            repeat (go_quiet (fail); try go_wp2)
                            go_ret2
                            exact ⟨_, by first | rfl | (simp [errW_none, errW_some] <;> rfl) | (simp [*, errW_none, errW_some] <;> rfl), by (with_reducible repeat (first | apply Kd.R_alloc | apply Kd.R_drewN | apply Kd.R_drew)); exact HO_6.out, by repeat (first | (with_reducible first | exact HI0.out | apply IsS86.alloc | apply IsS86.drewN | apply IsS86.drew | apply IsS86.set_0 | apply IsS86.set_1) | exact HI0.out), by repeat (first | (with_reducible first | exact HB.out | apply below_alloc | apply pw_below_drewN | apply below_drew1 | refine below_set ?_ (IsS86.ge HI0.out)) | exact HB.out), by repeat (first | (with_reducible first | exact HK.out | apply KeepBut.set_ | apply keep_drewN | apply keep_drew | apply keep_alloc) | exact HK.out)⟩
                          · rw [if_neg c21] at H
                            have c21b0 : decide ((x1000_1.size : Int) < (wrap64 (4 + (Go.bits .or .i64 (Go.bits .or .i64 (Go.bits .or .i64 (wrap64 ((wrap64 (bt x1000_1 0)) * 16777216)) (wrap64 ((wrap64 (bt x1000_1 1)) * 65536))) (wrap64 ((wrap64 (bt x1000_1 2)) * 256))) (wrap64 (bt x1000_1 3)))))) = false := decide_eq_false c21
                            clear c21
                            by_cases c23 : 4 ≤ (wrap64 (4 + (Go.bits .or .i64 (Go.bits .or .i64 (Go.bits .or .i64 (wrap64 ((wrap64 (bt x1000_1 0)) * 16777216)) (wrap64 ((wrap64 (bt x1000_1 1)) * 65536))) (wrap64 ((wrap64 (bt x1000_1 2)) * 256))) (wrap64 (bt x1000_1 3)))))
                            · rw [if_pos c23] at H
                              have c23b0 := eq_true c23
                              have c23b1 : decide (4 ≤ (wrap64 (4 + (Go.bits .or .i64 (Go.bits .or .i64 (Go.bits .or .i64 (wrap64 ((wrap64 (bt x1000_1 0)) * 16777216)) (wrap64 ((wrap64 (bt x1000_1 1)) * 65536))) (wrap64 ((wrap64 (bt x1000_1 2)) * 256))) (wrap64 (bt x1000_1 3)))))) = true := decide_eq_true c23
                              by_cases c24 : (wrap64 (4 + (Go.bits .or .i64 (Go.bits .or .i64 (Go.bits .or .i64 (wrap64 ((wrap64 (bt x1000_1 0)) * 16777216)) (wrap64 ((wrap64 (bt x1000_1 1)) * 65536))) (wrap64 ((wrap64 (bt x1000_1 2)) * 256))) (wrap64 (bt x1000_1 3))))) ≤ (x1000_1.size : Int)
                              · rw [if_pos c24] at H
                                have c24b0 := eq_true c24
                                have c24b1 : decide ((wrap64 (4 + (Go.bits .or .i64 (Go.bits .or .i64 (Go.bits .or .i64 (wrap64 ((wrap64 (bt x1000_1 0)) * 16777216)) (wrap64 ((wrap64 (bt x1000_1 1)) * 65536))) (wrap64 ((wrap64 (bt x1000_1 2)) * 256))) (wrap64 (bt x1000_1 3))))) ≤ (x1000_1.size : Int)) = true := decide_eq_true c24
                                by_cases c25 : x6_1.length < 8796093022208
                                · rw [if_pos c25] at H
                                  have LMc25 := Aside0.mk c25
                                  clear c25
                                  obtain ⟨y102, hy102⟩ : ∃ y_ : List ByteArray, y_ = (x6_1 ++ [x1000_1.extract 4 ((wrap64 (4 + (Go.bits .or .i64 (Go.bits .or .i64 (Go.bits .or .i64 (wrap64 ((wrap64 (bt x1000_1 0)) * 16777216)) (wrap64 ((wrap64 (bt x1000_1 1)) * 65536))) (wrap64 ((wrap64 (bt x1000_1 2)) * 256))) (wrap64 (bt x1000_1 3))))) : Int).toNat]) := ⟨_, rfl⟩
                                  replace H : (if 0 ≤ (wrap64 (4 + (Go.bits .or .i64 (Go.bits .or .i64 (Go.bits .or .i64 (wrap64 ((wrap64 (bt x1000_1 0)) * 16777216)) (wrap64 ((wrap64 (bt x1000_1 1)) * 65536))) (wrap64 ((wrap64 (bt x1000_1 2)) * 256))) (wrap64 (bt x1000_1 3))))) then (wire_Stream_Feed.l0 kj15 y102 (x1000_1.extract ((wrap64 (4 + (Go.bits .or .i64 (Go.bits .or .i64 (Go.bits .or .i64 (wrap64 ((wrap64 (bt x1000_1 0)) * 16777216)) (wrap64 ((wrap64 (bt x1000_1 1)) * 65536))) (wrap64 ((wrap64 (bt x1000_1 2)) * 256))) (wrap64 (bt x1000_1 3))))) : Int).toNat x1000_1.size) x1001_1) else (none)) = some (r1, r2, r3, r4) := by first | (rw [hy102]; with_reducible exact H) | (have H2_ := (Option.bind_some _ _).symm.trans H; rw [hy102]; with_reducible exact H2_) | (have H2_ := (Option.bind_some _ _).symm.trans H; with_reducible exact H2_) | with_reducible exact H | (rw [hy102]; exact H) | exact H
                                  have Ny102 := Aside0.mk hy102
                                  clear hy102
                                  obtain ⟨ji26, hji26⟩ : ∃ j_ : Int, (wrap64 (4 + (Go.bits .or .i64 (Go.bits .or .i64 (Go.bits .or .i64 (wrap64 ((wrap64 (bt x1000_1 0)) * 16777216)) (wrap64 ((wrap64 (bt x1000_1 1)) * 65536))) (wrap64 ((wrap64 (bt x1000_1 2)) * 256))) (wrap64 (bt x1000_1 3))))) = j_ := ⟨_, rfl⟩
                                  replace H : (if 0 ≤ (ji26) then (wire_Stream_Feed.l0 kj15 y102 (x1000_1.extract ((ji26) : Int).toNat x1000_1.size) x1001_1) else (none)) = some (r1, r2, r3, r4) := by first | (rw [hji26] at H; exact H) | (simp only [hji26] at H ⊢; exact H)
                                  (try rw [hji26] at c21b0)
                                  (try rw [hji26] at c23b0)
                                  (try rw [hji26] at c23b1)
                                  (try rw [hji26] at c23)
                                  (try rw [hji26] at c24b0)
                                  (try rw [hji26] at c24b1)
                                  (try rw [hji26] at c24)
                                  (try rw [hji26] at Ny102)
                                  have hji26w : (IntKind.i64.wrap (4 + (Go.bits .or .i64 (Go.bits .or .i64 (Go.bits .or .i64 (wrap64 ((wrap64 (bt x1000_1 0)) * 16777216)) (wrap64 ((wrap64 (bt x1000_1 1)) * 65536))) (wrap64 ((wrap64 (bt x1000_1 2)) * 256))) (wrap64 (bt x1000_1 3))))) = ji26 := (i64_w _).trans hji26
                                  by_cases c27 : 0 ≤ (ji26)
                                  · rw [if_pos c27] at H
                                    have c27b0 := eq_true c27
                                    have c27b1 : decide (0 ≤ (ji26)) = true := decide_eq_true c27
                                    clear c27
                                    have c28b0 := eq_true (of_decide_eq_true (by first | (with_reducible assumption) | assumption) : (ji26) ≤ (x1000_1.size : Int))
                                    have H' := Aside0.mk H
                                    clear H
                                    obtain ⟨HGz29, hgz29⟩ := HI0.out
                                    have hcz29_0 := cellS86_0 HGz29
                                    have hcz29_1 := cellS86_1 HGz29
                                    have hfz29_0 := blk_frozen HGz29 0
                                    have hfz29_1 := blk_frozen HGz29 1
                                    clear HGz29 hgz29
                                    go_wp2_with (first | ((with_reducible refine gate_builtin (b := .append) (xs := #[.tmp 77, .tmp 85]) rfl ?_); at_builtin; refine Kd.R_append Kd.string w.heap.size rfl (.tmp 77) (.tmp 85) 22 9 (.string ⟨#[]⟩) 16 rfl Try.underlying22 info9 rfl (by decide) (by omega) u6 x6_1 (x1000_1.extract 4 ((ji26) : Int).toNat) [.string (x1000_1.extract 4 ((ji26) : Int).toNat)] (fun _ => True) (fun _ => False) rfl rfl ?aP (fun _ hk => hk.elim) ?aF ?aO (Below.refl _ _) ?aS ?aL ?_; (case aP => exact rfl); (case aF => exact (fun _ _ => trivial)); (case aO => exact (by (with_reducible repeat (first | apply Kd.R_alloc | apply Kd.R_drewN | apply Kd.R_drew)); exact HO_6.out)); (case aS => exact (keep_size (w := w) (g := g) (row := none) (by repeat (first | (with_reducible first | exact HK.out | apply KeepBut.set_ | apply keep_drewN | apply keep_drew | apply keep_alloc) | exact HK.out)))); (case aL => have := LMc25.out; omega); intro v103 w30 ho hb hg hat; rw [← Ny102.out] at ho; have n0_ := Aside0.mk (IsS86.grown (by repeat (first | (with_reducible first | exact HI0.out | apply IsS86.alloc | apply IsS86.drewN | apply IsS86.drew | apply IsS86.set_0 | apply IsS86.set_1) | exact HI0.out)) hg (IsS86.own_ne HI0.out HO_6.out (by decide))); have n1_ := Aside0.mk (below_weaken (by repeat (first | (with_reducible first | exact HB.out | apply below_alloc | apply pw_below_drewN | apply below_drew1 | refine below_set ?_ (IsS86.ge HI0.out)) | exact HB.out)) HL.out hb); have n2_ := Aside0.mk (KeepBut.trans (by repeat (first | (with_reducible first | exact HK.out | apply KeepBut.set_ | apply keep_drewN | apply keep_drew | apply keep_alloc) | exact HK.out)) (KeepBut.of_grown hg g) (Kd.R_base2 HO_6.out)); have n3_ := Aside0.mk (ho); clear HI0; clear HB; clear HK; clear HO_6; have HI0 := n0_; have HB := n1_; have HK := n2_; have HO104 := n3_; clear n0_ n1_ n2_ n3_; clear ho hb hg hat; obtain ⟨HGz31, hgz31⟩ := HI0.out; have hcz31_0 := cellS86_0 HGz31; have hcz31_1 := cellS86_1 HGz31; have hfz31_0 := blk_frozen HGz31 0; have hfz31_1 := blk_frozen HGz31 1; clear HGz31 hgz31))
                                    repeat (go_quiet (first | ((with_reducible refine gate_builtin (b := .append) (xs := #[.tmp 77, .tmp 85]) rfl ?_); at_builtin; refine Kd.R_append Kd.string w.heap.size rfl (.tmp 77) (.tmp 85) 22 9 (.string ⟨#[]⟩) 16 rfl Try.underlying22 info9 rfl (by decide) (by omega) u6 x6_1 (x1000_1.extract 4 ((ji26) : Int).toNat) [.string (x1000_1.extract 4 ((ji26) : Int).toNat)] (fun _ => True) (fun _ => False) rfl rfl ?aP (fun _ hk => hk.elim) ?aF ?aO (Below.refl _ _) ?aS ?aL ?_; (case aP => exact rfl); (case aF => exact (fun _ _ => trivial)); (case aO => exact (by (with_reducible repeat (first | apply Kd.R_alloc | apply Kd.R_drewN | apply Kd.R_drew)); exact HO_6.out)); (case aS => exact (keep_size (w := w) (g := g) (row := none) (by repeat (first | (with_reducible first | exact HK.out | apply KeepBut.set_ | apply keep_drewN | apply keep_drew | apply keep_alloc) | exact HK.out)))); (case aL => have := LMc25.out; omega); intro v103 w30 ho hb hg hat; rw [← Ny102.out] at ho; have n0_ := Aside0.mk (IsS86.grown (by repeat (first | (with_reducible first | exact HI0.out | apply IsS86.alloc | apply IsS86.drewN | apply IsS86.drew | apply IsS86.set_0 | apply IsS86.set_1) | exact HI0.out)) hg (IsS86.own_ne HI0.out HO_6.out (by decide))); have n1_ := Aside0.mk (below_weaken (by repeat (first | (with_reducible first | exact HB.out | apply below_alloc | apply pw_below_drewN | apply below_drew1 | refine below_set ?_ (IsS86.ge HI0.out)) | exact HB.out)) HL.out hb); have n2_ := Aside0.mk (KeepBut.trans (by repeat (first | (with_reducible first | exact HK.out | apply KeepBut.set_ | apply keep_drewN | apply keep_drew | apply keep_alloc) | exact HK.out)) (KeepBut.of_grown hg g) (Kd.R_base2 HO_6.out)); have n3_ := Aside0.mk (ho); clear HI0; clear HB; clear HK; clear HO_6; have HI0 := n0_; have HB := n1_; have HK := n2_; have HO104 := n3_; clear n0_ n1_ n2_ n3_; clear ho hb hg hat; obtain ⟨HGz31, hgz31⟩ := HI0.out; have hcz31_0 := cellS86_0 HGz31; have hcz31_1 := cellS86_1 HGz31; have hfz31_0 := blk_frozen HGz31 0; have hfz31_1 := blk_frozen HGz31 1; clear HGz31 hgz31)); try go_wp2_with (first | ((with_reducible refine gate_builtin (b := .append) (xs := #[.tmp 77, .tmp 85]) rfl ?_); at_builtin; refine Kd.R_append Kd.string w.heap.size rfl (.tmp 77) (.tmp 85) 22 9 (.string ⟨#[]⟩) 16 rfl Try.underlying22 info9 rfl (by decide) (by omega) u6 x6_1 (x1000_1.extract 4 ((ji26) : Int).toNat) [.string (x1000_1.extract 4 ((ji26) : Int).toNat)] (fun _ => True) (fun _ => False) rfl rfl ?aP (fun _ hk => hk.elim) ?aF ?aO (Below.refl _ _) ?aS ?aL ?_; (case aP => exact rfl); (case aF => exact (fun _ _ => trivial)); (case aO => exact (by (with_reducible repeat (first | apply Kd.R_alloc | apply Kd.R_drewN | apply Kd.R_drew)); exact HO_6.out)); (case aS => exact (keep_size (w := w) (g := g) (row := none) (by repeat (first | (with_reducible first | exact HK.out | apply KeepBut.set_ | apply keep_drewN | apply keep_drew | apply keep_alloc) | exact HK.out)))); (case aL => have := LMc25.out; omega); intro v103 w30 ho hb hg hat; rw [← Ny102.out] at ho; have n0_ := Aside0.mk (IsS86.grown (by repeat (first | (with_reducible first | exact HI0.out | apply IsS86.alloc | apply IsS86.drewN | apply IsS86.drew | apply IsS86.set_0 | apply IsS86.set_1) | exact HI0.out)) hg (IsS86.own_ne HI0.out HO_6.out (by decide))); have n1_ := Aside0.mk (below_weaken (by repeat (first | (with_reducible first | exact HB.out | apply below_alloc | apply pw_below_drewN | apply below_drew1 | refine below_set ?_ (IsS86.ge HI0.out)) | exact HB.out)) HL.out hb); have n2_ := Aside0.mk (KeepBut.trans (by repeat (first | (with_reducible first | exact HK.out | apply KeepBut.set_ | apply keep_drewN | apply keep_drew | apply keep_alloc) | exact HK.out)) (KeepBut.of_grown hg g) (Kd.R_base2 HO_6.out)); have n3_ := Aside0.mk (ho); clear HI0; clear HB; clear HK; clear HO_6; have HI0 := n0_; have HB := n1_; have HK := n2_; have HO104 := n3_; clear n0_ n1_ n2_ n3_; clear ho hb hg hat; obtain ⟨HGz31, hgz31⟩ := HI0.out; have hcz31_0 := cellS86_0 HGz31; have hcz31_1 := cellS86_1 HGz31; have hfz31_0 := blk_frozen HGz31 0; have hfz31_1 := blk_frozen HGz31 1; clear HGz31 hgz31)))
                                    go_roundg kj15
                                    case measure => have := HK1.out; have := HJ15.out; omega
                                    case rel => exact ⟨(y102), (x1000_1.extract ((ji26) : Int).toNat x1000_1.size), (x1001_1), H', ⟨by have := HK1.out; have := HJ15.out; omega⟩, ⟨by (with_reducible repeat (first | apply Kd.R_alloc | apply Kd.R_drewN | apply Kd.R_drew)); exact Kd.R_mono (Kd.R_far (p := ⟨g, 0, none⟩) (IsS86.apart HI0.out HO104.out (by decide)) (fun _ hk => hk.2) (.string (x1000_1.extract ((ji26) : Int).toNat x1000_1.size))) (fun _ hk => trivial)⟩, ⟨by repeat (first | (with_reducible first | exact HI0.out | apply IsS86.alloc | apply IsS86.drewN | apply IsS86.drew | apply IsS86.set_0 | apply IsS86.set_1) | exact HI0.out)⟩, ⟨by repeat (first | (with_reducible first | exact HK.out | apply KeepBut.set_ | apply keep_drewN | apply keep_drew | apply keep_alloc) | exact HK.out)⟩, ⟨by repeat (first | (with_reducible first | exact HB.out | apply below_alloc | apply pw_below_drewN | apply below_drew1 | refine below_set ?_ (IsS86.ge HI0.out)) | exact HB.out)⟩⟩
                                  · rw [if_neg c27] at H
                                    exact absurd H (by simp)
                                · rw [if_neg c25] at H
                                  exact absurd H (by simp)
                              · rw [if_neg c24] at H
                                exact absurd H (by simp)
                            · rw [if_neg c23] at H
                              exact absurd H (by simp)
                  · rw [if_neg c14] at H
                    exact absurd H (by simp)
                · rw [if_neg c12] at H
                  exact absurd H (by simp)
              · rw [if_neg c10] at H
                exact absurd H (by simp)
            · rw [if_neg c8] at H
              exact absurd H (by simp)
          · rw [if_neg c7] at H
            have c7b0 : decide (4 ≤ (x1000_1.size : Int)) = false := decide_eq_false c7
            have c7b1 : decide (4 ≤ x1000_1.size) = false := decide_eq_false (by omega)
            clear c7
            simp only [Option.some.injEq, Prod.mk.injEq] at H
            obtain ⟨rfl, rfl, rfl, rfl⟩ := H
            obtain ⟨HGz32, hgz32⟩ := HI0.out
            have hcz32_0 := cellS86_0 HGz32
            have hcz32_1 := cellS86_1 HGz32
            have hfz32_0 := blk_frozen HGz32 0
            have hfz32_1 := blk_frozen HGz32 1
            clear HGz32 hgz32
            go_wp2
            repeat (go_quiet (fail); try go_wp2)
            go_ret2
            exact ⟨_, by first | rfl | (simp [errW_none, errW_some] <;> rfl) | (simp [*, errW_none, errW_some] <;> rfl), by (with_reducible repeat (first | apply Kd.R_alloc | apply Kd.R_drewN | apply Kd.R_drew)); exact HO_6.out, by repeat (first | (with_reducible first | exact HI0.out | apply IsS86.alloc | apply IsS86.drewN | apply IsS86.drew | apply IsS86.set_0 | apply IsS86.set_1) | exact HI0.out), by repeat (first | (with_reducible first | exact HB.out | apply below_alloc | apply pw_below_drewN | apply below_drew1 | refine below_set ?_ (IsS86.ge HI0.out)) | exact HB.out), by repeat (first | (with_reducible first | exact HK.out | apply KeepBut.set_ | apply keep_drewN | apply keep_drew | apply keep_alloc) | exact HK.out)⟩
    · rw [if_neg c5] at H
      exact absurd H (by simp)

end Go.Proofs.Ytdfeidpkdbleaaa.PA

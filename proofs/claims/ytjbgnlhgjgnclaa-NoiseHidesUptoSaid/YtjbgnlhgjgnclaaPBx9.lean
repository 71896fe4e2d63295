
/- Functions of the program in Lean, by wip/xprint.py. Conditions: in each theorem. -/
import Derived.Test.YtjbgnlhgjgnclaaPBxs
import Derived.Test.YtjbgnlhgjgnclaaPBx0
namespace Go.Proofs.Ytjbgnlhgjgnclaa.PB
open Go.RowKit Go.Proofs.YtjbgnlhgjgnclaaW.PrintWords Go.Proofs.YtjbgnlhgjgnclaaW.PrintLast Go.Proofs.YtjbgnlhgjgnclaaW.PrintMore
attribute [local go_sem] max2_int min2_int max_two min_two max_three min_three max_four min_four   -- for this text's walks alone
set_option linter.unusedVariables false
set_option linter.unusedSimpArgs false

/-! ### hushref2_Compare: function 31 -/
def hushref2_Compare.l0 : Nat → List Int → List Int → Int → Int → Option (Int)
 | 0, _, _, _, _ => none
 | k + 1, x0, x1, x7, x8 => if x8 < x7 then (if x8 ≥ (x1.length : Int) then (some 1) else (if 0 ≤ x8 then (if x8 < (x0.length : Int) then (if x8 < (x1.length : Int) then (if (rd x0 x8) = (rd x1 x8) then (hushref2_Compare.l0 k x0 x1 x7 (wrap64 (x8 + 1))) else (if (rd x0 x8) < (rd x1 x8) then (some (-1)) else (some 1))) else (none)) else (none)) else (none))) else (if (x0.length : Int) < (x1.length : Int) then (some (-1)) else (some 0))
def hushref2_Compare.f (k : Nat) (l0 : List Int) (l1 : List Int) : Option (Int) := hushref2_Compare.l0 k l0 l1 (l0.length : Int) 0
theorem hushref2_Compare.mono_l : ∀ k, (∀ y0 y1 y2 y3, LeO (hushref2_Compare.l0 k y0 y1 y2 y3) (hushref2_Compare.l0 (k + 1) y0 y1 y2 y3))
 | 0 => fun _ _ _ _ r h => by simp [hushref2_Compare.l0] at h
 | k + 1 => by
  have ih0 := hushref2_Compare.mono_l k
  ·
   intro y0 y1 y2 y3
   unfold hushref2_Compare.l0
   repeat' first
   | (with_reducible exact ih0 _ _ _ _)
   | (with_reducible exact LeO.refl _)
   | (with_reducible refine LeO.ite ?_ ?_)
theorem hushref2_Compare.mono : ∀ a0 a1 k, LeO (hushref2_Compare.f k a0 a1) (hushref2_Compare.f (k + 1) a0 a1) := by
 intro a0 a1 k
 have ih0 := hushref2_Compare.mono_l k
 unfold hushref2_Compare.f
 repeat' (with_reducible exact ih0 _ _ _ _)
set_option maxHeartbeats 8000000 in
set_option maxRecDepth 100000 in
theorem hushref2_Compare.calls (k : Nat) (A0 : Option Addr) (c0 : Nat) (l0 : List Int) (A1 : Option Addr) (c1 : Nat) (l1 : List Int) (r : Int) (w : World) (hr0 : Kd.C (Kd.int .i64) w A0 l0.length l0) (hc0 : l0.length ≤ c0) (hr1 : Kd.C (Kd.int .i64) w A1 l1.length l1) (hc1 : l1.length ≤ c1) (h : hushref2_Compare.f k l0 l1 = some r) :
  Calls Try.prog 31 #[.slice A0 l0.length c0, .slice A1 l1.length c1] w fun e w' => e = .returned (.int .i64 r) ∧ Drawn0 w w' := by
 have HR0 := Aside0.mk hr0
 have HC0 := Aside0.mk hc0
 clear hr0 hc0
 have HR1 := Aside0.mk hr1
 have HC1 := Aside0.mk hc1
 clear hr1 hc1
 have H : (hushref2_Compare.l0 k l0 l1 (l0.length : Int) 0) = some r := h
 clear h
 have H' := Aside0.mk H
 clear H
 go_enter Try.func31, Try.ntmps31
 go_wp2
 repeat (go_quiet (fail); try go_wp2)
 go_loopg [8] k (fun kq v8 w' => ∃ (x8_1 : Int), v8 = .int .i64 x8_1 ∧ Aside0 (hushref2_Compare.l0 kq l0 l1 (l0.length : Int) x8_1 = some r) ∧ Aside0 (kq ≤ k) ∧ Drawn0 w w')
 case atStart => exact ⟨(0), rfl, H', ⟨Nat.le_refl _⟩, by repeat (exact Drawn0.refl _)⟩
 case round =>
  clear H'
  obtain ⟨x8_1, rfl, HA, HK1, ⟨m1, rfl⟩⟩ := hrel
  cases gk with
  | zero => exact absurd HA.out (by simp [hushref2_Compare.l0])
  | succ k1 =>
   have H := HA.out
   clear HA
   simp only [hushref2_Compare.l0] at H
   by_cases c3 : x8_1 < (l0.length : Int)
   ·
    rw [if_pos c3] at H
    have c3b0 : decide (x8_1 < (l0.length : Int)) = true := decide_eq_true c3
    clear c3
    by_cases c4 : x8_1 ≥ (l1.length : Int)
    ·
     rw [if_pos c4] at H
     have c4b0 : decide ((l1.length : Int) ≤ x8_1) = true := decide_eq_true c4
     clear c4
     obtain rfl := Option.some.inj H
     go_wp2
     repeat (go_quiet (fail); try go_wp2)
     go_ret
     exact ⟨rfl, by repeat (first | exact Drawn0.refl _ | apply Drawn0.step)⟩
    ·
     rw [if_neg c4] at H
     have c4b0 : decide ((l1.length : Int) ≤ x8_1) = false := decide_eq_false c4
     clear c4
     by_cases c5 : 0 ≤ x8_1
     ·
      rw [if_pos c5] at H
      have c5b0 : decide (0 ≤ x8_1) = true := decide_eq_true c5
      clear c5
      by_cases c6 : x8_1 < (l0.length : Int)
      ·
       rw [if_pos c6] at H
       have c6b0 : decide (x8_1 < (l0.length : Int)) = true := decide_eq_true c6
       clear c6
       by_cases c7 : x8_1 < (l1.length : Int)
       ·
        rw [if_pos c7] at H
        have c7b0 : decide (x8_1 < (l1.length : Int)) = true := decide_eq_true c7
        clear c7
        by_cases c8 : (rd l0 x8_1) = (rd l1 x8_1)
        ·
         rw [if_pos c8] at H
         have c8b0 : ((rd l0 x8_1) == (rd l1 x8_1)) = true := beq_iff_eq.mpr c8
         have c8b1 : ((rd l0 x8_1) != (rd l1 x8_1)) = false := bne_eq_false_iff_eq.mpr c8
         clear c8
         have H' := Aside0.mk H
         clear H
         have p175 : 0 ≤ (x8_1 : Int) := of_decide_eq_true (by (with_reducible assumption))
         have q175 : x8_1 < (l0.length : Int) := of_decide_eq_true (by (with_reducible assumption))
         obtain ⟨ad175, e175, hx175_0⟩ := Kd.at_int HR0.out x8_1 p175 q175
         cases e175
         replace p175 := eq_true p175
         replace q175 := eq_true q175
         have p176 : 0 ≤ (x8_1 : Int) := of_decide_eq_true (by (with_reducible assumption))
         have q176 : x8_1 < (l1.length : Int) := of_decide_eq_true (by (with_reducible assumption))
         obtain ⟨ad176, e176, hx176_0⟩ := Kd.at_int HR1.out x8_1 p176 q176
         cases e176
         replace p176 := eq_true p176
         replace q176 := eq_true q176
         go_wp2
         repeat (go_quiet (fail); try go_wp2)
         go_roundg k1
         case measure => have := HK1.out; omega
         case rel => exact ⟨(wrap64 (x8_1 + 1)), rfl, H', ⟨by have := HK1.out; omega⟩, by repeat (first | exact Drawn0.refl _ | apply Drawn0.step)⟩
        ·
         rw [if_neg c8] at H
         have c8b0 : ((rd l0 x8_1) == (rd l1 x8_1)) = false := beq_eq_false_iff_ne.mpr c8
         have c8b1 : ((rd l0 x8_1) != (rd l1 x8_1)) = true := bne_iff_ne.mpr c8
         by_cases c9 : (rd l0 x8_1) < (rd l1 x8_1)
         ·
          rw [if_pos c9] at H
          have c9b0 : decide ((rd l0 x8_1) < (rd l1 x8_1)) = true := decide_eq_true c9
          clear c9
          obtain rfl := Option.some.inj H
          have p175 : 0 ≤ (x8_1 : Int) := of_decide_eq_true (by (with_reducible assumption))
          have q175 : x8_1 < (l0.length : Int) := of_decide_eq_true (by (with_reducible assumption))
          obtain ⟨ad175, e175, hx175_0⟩ := Kd.at_int HR0.out x8_1 p175 q175
          cases e175
          replace p175 := eq_true p175
          replace q175 := eq_true q175
          have p176 : 0 ≤ (x8_1 : Int) := of_decide_eq_true (by (with_reducible assumption))
          have q176 : x8_1 < (l1.length : Int) := of_decide_eq_true (by (with_reducible assumption))
          obtain ⟨ad176, e176, hx176_0⟩ := Kd.at_int HR1.out x8_1 p176 q176
          cases e176
          replace p176 := eq_true p176
          replace q176 := eq_true q176
          have p177 : 0 ≤ (x8_1 : Int) := of_decide_eq_true (by (with_reducible assumption))
          have q177 : x8_1 < (l0.length : Int) := of_decide_eq_true (by (with_reducible assumption))
          obtain ⟨ad177, e177, hx177_0⟩ := Kd.at_int HR0.out x8_1 p177 q177
          obtain rfl : ad175 = ad177 := (by injection e177)
          replace p177 := eq_true p177
          replace q177 := eq_true q177
          have p178 : 0 ≤ (x8_1 : Int) := of_decide_eq_true (by (with_reducible assumption))
          have q178 : x8_1 < (l1.length : Int) := of_decide_eq_true (by (with_reducible assumption))
          obtain ⟨ad178, e178, hx178_0⟩ := Kd.at_int HR1.out x8_1 p178 q178
          obtain rfl : ad176 = ad178 := (by injection e178)
          replace p178 := eq_true p178
          replace q178 := eq_true q178
          go_wp2
          repeat (go_quiet (fail); try go_wp2)
          go_ret
          exact ⟨rfl, by repeat (first | exact Drawn0.refl _ | apply Drawn0.step)⟩
         ·
          rw [if_neg c9] at H
          have c9b0 : decide ((rd l0 x8_1) < (rd l1 x8_1)) = false := decide_eq_false c9
          clear c9
          obtain rfl := Option.some.inj H
          have p175 : 0 ≤ (x8_1 : Int) := of_decide_eq_true (by (with_reducible assumption))
          have q175 : x8_1 < (l0.length : Int) := of_decide_eq_true (by (with_reducible assumption))
          obtain ⟨ad175, e175, hx175_0⟩ := Kd.at_int HR0.out x8_1 p175 q175
          cases e175
          replace p175 := eq_true p175
          replace q175 := eq_true q175
          have p176 : 0 ≤ (x8_1 : Int) := of_decide_eq_true (by (with_reducible assumption))
          have q176 : x8_1 < (l1.length : Int) := of_decide_eq_true (by (with_reducible assumption))
          obtain ⟨ad176, e176, hx176_0⟩ := Kd.at_int HR1.out x8_1 p176 q176
          cases e176
          replace p176 := eq_true p176
          replace q176 := eq_true q176
          have p177 : 0 ≤ (x8_1 : Int) := of_decide_eq_true (by (with_reducible assumption))
          have q177 : x8_1 < (l0.length : Int) := of_decide_eq_true (by (with_reducible assumption))
          obtain ⟨ad177, e177, hx177_0⟩ := Kd.at_int HR0.out x8_1 p177 q177
          obtain rfl : ad175 = ad177 := (by injection e177)
          replace p177 := eq_true p177
          replace q177 := eq_true q177
          have p178 : 0 ≤ (x8_1 : Int) := of_decide_eq_true (by (with_reducible assumption))
          have q178 : x8_1 < (l1.length : Int) := of_decide_eq_true (by (with_reducible assumption))
          obtain ⟨ad178, e178, hx178_0⟩ := Kd.at_int HR1.out x8_1 p178 q178
          obtain rfl : ad176 = ad178 := (by injection e178)
          replace p178 := eq_true p178
          replace q178 := eq_true q178
          go_wp2
          repeat (go_quiet (fail); try go_wp2)
          go_ret
          exact ⟨rfl, by repeat (first | exact Drawn0.refl _ | apply Drawn0.step)⟩
       ·
        rw [if_neg c7] at H
        exact absurd H (by simp)
      ·
       rw [if_neg c6] at H
       exact absurd H (by simp)
     ·
      rw [if_neg c5] at H
      exact absurd H (by simp)
   ·
    rw [if_neg c3] at H
    have c3b0 : decide (x8_1 < (l0.length : Int)) = false := decide_eq_false c3
    clear c3
    by_cases c10 : (l0.length : Int) < (l1.length : Int)
    ·
     rw [if_pos c10] at H
     have c10b0 : decide ((l0.length : Int) < (l1.length : Int)) = true := decide_eq_true c10
     have c10b1 : decide (l0.length < l1.length) = true := decide_eq_true (Int.ofNat_lt.mp c10)
     clear c10
     obtain rfl := Option.some.inj H
     go_wp2
     repeat (go_quiet (fail); try go_wp2)
     go_ret
     exact ⟨rfl, by repeat (first | exact Drawn0.refl _ | apply Drawn0.step)⟩
    ·
     rw [if_neg c10] at H
     have c10b0 : decide ((l0.length : Int) < (l1.length : Int)) = false := decide_eq_false c10
     have c10b1 : decide (l0.length < l1.length) = false := decide_eq_false (fun h => c10 (Int.ofNat_lt.mpr h))
     clear c10
     obtain rfl := Option.some.inj H
     go_wp2
     repeat (go_quiet (fail); try go_wp2)
     go_ret
     exact ⟨rfl, by repeat (first | exact Drawn0.refl _ | apply Drawn0.step)⟩

/-! ### hushref2_Same: function 10 -/
def hushref2_Same.l0 : Nat → List (S64) → List (S64) → Int → Int → Option (Bool)
 | 0, _, _, _, _ => none
 | k + 1, x0, x1, x12, x13 => if x13 < x12 then (if 0 ≤ x13 then (if x13 < (x0.length : Int) then (if x13 < (x1.length : Int) then (if ((rd_T64 x0 x13).f1) = ((rd_T64 x1 x13).f1) then ((hushref2_Compare.f k ((rd_T64 x0 x13).f0) ((rd_T64 x1 x13).f0)).bind fun t183 => (if t183 = 0 then (hushref2_Same.l0 k x0 x1 x12 (wrap64 (x13 + 1))) else (some false))) else (some false)) else (none)) else (none)) else (none)) else (some true)
def hushref2_Same.f (k : Nat) (l0 : List (S64)) (l1 : List (S64)) : Option (Bool) := if (l0.length : Int) = (l1.length : Int) then (hushref2_Same.l0 k l0 l1 (l0.length : Int) 0) else (some false)
theorem hushref2_Same.mono_l : ∀ k, (∀ y0 y1 y2 y3, LeO (hushref2_Same.l0 k y0 y1 y2 y3) (hushref2_Same.l0 (k + 1) y0 y1 y2 y3))
 | 0 => fun _ _ _ _ r h => by simp [hushref2_Same.l0] at h
 | k + 1 => by
  have ih0 := hushref2_Same.mono_l k
  ·
   intro y0 y1 y2 y3
   unfold hushref2_Same.l0
   repeat' first
   | (with_reducible exact ih0 _ _ _ _)
   | (with_reducible exact hushref2_Compare.mono _ _ _)
   | (with_reducible exact LeO.refl _)
   | (with_reducible refine LeO.ite ?_ ?_)
   | (with_reducible refine LeO.bind ?_ (fun _ => ?_))
theorem hushref2_Same.mono : ∀ a0 a1 k, LeO (hushref2_Same.f k a0 a1) (hushref2_Same.f (k + 1) a0 a1) := by
 intro a0 a1 k
 have ih0 := hushref2_Same.mono_l k
 unfold hushref2_Same.f
 repeat' first
   | (with_reducible exact ih0 _ _ _ _)
   | (with_reducible exact LeO.refl _)
   | (with_reducible refine LeO.ite ?_ ?_)
set_option maxHeartbeats 8000000 in
set_option maxRecDepth 100000 in
theorem hushref2_Same.calls (k : Nat) (A0 : Option Addr) (c0 : Nat) (l0 : List (S64)) (A1 : Option Addr) (c1 : Nat) (l1 : List (S64)) (r : Bool) (w : World) (hr0 : Kd.C k64 w A0 l0.length l0) (hc0 : l0.length ≤ c0) (hr1 : Kd.C k64 w A1 l1.length l1) (hc1 : l1.length ≤ c1) (h : hushref2_Same.f k l0 l1 = some r) :
  Calls Try.prog 10 #[.slice A0 l0.length c0, .slice A1 l1.length c1] w fun e w' => e = .returned (.bool r) ∧ Drawn0 w w' := by
 have HR0 := Aside0.mk hr0
 have HC0 := Aside0.mk hc0
 clear hr0 hc0
 have HR1 := Aside0.mk hr1
 have HC1 := Aside0.mk hc1
 clear hr1 hc1
 have H : (if (l0.length : Int) = (l1.length : Int) then (hushref2_Same.l0 k l0 l1 (l0.length : Int) 0) else (some false)) = some r := h
 clear h
 by_cases c3 : (l0.length : Int) = (l1.length : Int)
 ·
  rw [if_pos c3] at H
  have c3b0 : ((l0.length : Int) == (l1.length : Int)) = true := beq_iff_eq.mpr c3
  have c3b1 : ((l0.length : Int) != (l1.length : Int)) = false := bne_eq_false_iff_eq.mpr c3
  have c3b2 : (l0.length == l1.length) = true := by (simp at c3 ⊢; omega)
  clear c3
  have H' := Aside0.mk H
  clear H
  go_enter Try.func10, Try.ntmps10
  go_wp2
  repeat (go_quiet (fail); try go_wp2)
  go_loopg [13] k (fun kq v13 w' => ∃ (x13_1 : Int), v13 = .int .i64 x13_1 ∧ Aside0 (hushref2_Same.l0 kq l0 l1 (l0.length : Int) x13_1 = some r) ∧ Aside0 (kq ≤ k) ∧ Drawn0 w w')
  case atStart => exact ⟨(0), rfl, H', ⟨Nat.le_refl _⟩, by repeat (exact Drawn0.refl _)⟩
  case round =>
   clear H'
   try clear c3b0
   try clear c3b1
   try clear c3b2
   obtain ⟨x13_1, rfl, HA, HK1, ⟨m1, rfl⟩⟩ := hrel
   cases gk with
   | zero => exact absurd HA.out (by simp [hushref2_Same.l0])
   | succ k1 =>
    have H := HA.out
    clear HA
    simp only [hushref2_Same.l0] at H
    by_cases c4 : x13_1 < (l0.length : Int)
    ·
     rw [if_pos c4] at H
     have c4b0 : decide (x13_1 < (l0.length : Int)) = true := decide_eq_true c4
     clear c4
     by_cases c5 : 0 ≤ x13_1
     ·
      rw [if_pos c5] at H
      have c5b0 : decide (0 ≤ x13_1) = true := decide_eq_true c5
      clear c5
      by_cases c6 : x13_1 < (l0.length : Int)
      ·
       rw [if_pos c6] at H
       have c6b0 : decide (x13_1 < (l0.length : Int)) = true := decide_eq_true c6
       clear c6
       by_cases c7 : x13_1 < (l1.length : Int)
       ·
        rw [if_pos c7] at H
        have c7b0 : decide (x13_1 < (l1.length : Int)) = true := decide_eq_true c7
        clear c7
        by_cases c8 : ((rd_T64 l0 x13_1).f1) = ((rd_T64 l1 x13_1).f1)
        ·
         rw [if_pos c8] at H
         have c8b0 : (((rd_T64 l0 x13_1).f1) == ((rd_T64 l1 x13_1).f1)) = true := beq_iff_eq.mpr c8
         have c8b1 : (((rd_T64 l0 x13_1).f1) != ((rd_T64 l1 x13_1).f1)) = false := bne_eq_false_iff_eq.mpr c8
         clear c8
         obtain ⟨t183, A9, H⟩ := bnd_ H
         by_cases c10 : t183 = 0
         ·
          rw [if_pos c10] at H
          have c10b0 : (t183 == 0) = true := beq_iff_eq.mpr c10
          have c10b1 : (t183 != 0) = false := bne_eq_false_iff_eq.mpr c10
          clear c10
          have H' := Aside0.mk H
          clear H
          have p179 : 0 ≤ (x13_1 : Int) := of_decide_eq_true (by (with_reducible assumption))
          have q179 : x13_1 < (l0.length : Int) := of_decide_eq_true (by (with_reducible assumption))
          obtain ⟨ad179, A179_0, c179_0, e179, hx179_0, hx179_1, hl179_0, hi179_0⟩ := at_T64 HR0.out x13_1 p179 q179
          cases e179
          have HR179_0 := Aside0.mk hi179_0
          have HC179_0 := Aside0.mk hl179_0
          clear hi179_0 hl179_0
          replace p179 := eq_true p179
          replace q179 := eq_true q179
          have p180 : 0 ≤ (x13_1 : Int) := of_decide_eq_true (by (with_reducible assumption))
          have q180 : x13_1 < (l1.length : Int) := of_decide_eq_true (by (with_reducible assumption))
          obtain ⟨ad180, A180_0, c180_0, e180, hx180_0, hx180_1, hl180_0, hi180_0⟩ := at_T64 HR1.out x13_1 p180 q180
          cases e180
          have HR180_0 := Aside0.mk hi180_0
          have HC180_0 := Aside0.mk hl180_0
          clear hi180_0 hl180_0
          replace p180 := eq_true p180
          replace q180 := eq_true q180
          have p181 : 0 ≤ (x13_1 : Int) := of_decide_eq_true (by (with_reducible assumption))
          have q181 : x13_1 < (l0.length : Int) := of_decide_eq_true (by (with_reducible assumption))
          obtain ⟨ad181, A181_0, c181_0, e181, hx181_0, hx181_1, hl181_0, hi181_0⟩ := at_T64 HR0.out x13_1 p181 q181
          obtain rfl : ad179 = ad181 := (by injection e181)
          have HR181_0 := Aside0.mk hi181_0
          have HC181_0 := Aside0.mk hl181_0
          clear hi181_0 hl181_0
          replace p181 := eq_true p181
          replace q181 := eq_true q181
          have ea_ := Option.some.inj (hx179_0.symm.trans hx181_0)
          injection ea_ with ea_ en_ ec_
          subst ea_
          subst ec_
          clear en_
          have p182 : 0 ≤ (x13_1 : Int) := of_decide_eq_true (by (with_reducible assumption))
          have q182 : x13_1 < (l1.length : Int) := of_decide_eq_true (by (with_reducible assumption))
          obtain ⟨ad182, A182_0, c182_0, e182, hx182_0, hx182_1, hl182_0, hi182_0⟩ := at_T64 HR1.out x13_1 p182 q182
          obtain rfl : ad180 = ad182 := (by injection e182)
          have HR182_0 := Aside0.mk hi182_0
          have HC182_0 := Aside0.mk hl182_0
          clear hi182_0 hl182_0
          replace p182 := eq_true p182
          replace q182 := eq_true q182
          have ea_ := Option.some.inj (hx180_0.symm.trans hx182_0)
          injection ea_ with ea_ en_ ec_
          subst ea_
          subst ec_
          clear en_
          go_wp2_with (first | (go_at_call 31; (with_reducible refine (hushref2_Compare.calls k1 _ _ ((rd_T64 l0 x13_1).f0) _ _ ((rd_T64 l1 x13_1).f0) t183 _ ?side1 ?side2 ?side3 ?side4 A9.out).mono ?_); (case side1 => repeat (first | exact HR181_0.out | (with_reducible refine Kd.C_alloc ?_ _) | (with_reducible refine Kd.C_drewN ?_ _) | (with_reducible refine Kd.C_drew ?_))); (case side2 => exact HC181_0.out); (case side3 => repeat (first | exact HR182_0.out | (with_reducible refine Kd.C_alloc ?_ _) | (with_reducible refine Kd.C_drewN ?_ _) | (with_reducible refine Kd.C_drew ?_))); (case side4 => exact HC182_0.out); rintro e w' ⟨rfl, ⟨nd, rfl⟩⟩; (try first | exact ⟨rfl, _, World.drewN_drewN _ _ _⟩ | exact ⟨rfl, _, Eq.trans (World.drewN_drewN _ _ _) (congrArg (World.drewN _) (Nat.add_assoc _ _ _))⟩)))
          repeat (go_quiet ((go_at_call 31; (with_reducible refine (hushref2_Compare.calls k1 _ _ ((rd_T64 l0 x13_1).f0) _ _ ((rd_T64 l1 x13_1).f0) t183 _ ?side1 ?side2 ?side3 ?side4 A9.out).mono ?_); (case side1 => repeat (exact HR181_0.out)); (case side2 => exact HC181_0.out); (case side3 => repeat (exact HR182_0.out)); (case side4 => exact HC182_0.out); rintro e w' ⟨rfl, ⟨nd, rfl⟩⟩; (try exact ⟨rfl, _, Eq.trans (World.drewN_drewN _ _ _) (congrArg (World.drewN _) (Nat.add_assoc _ _ _))⟩))); try go_wp2_with (first | (go_at_call 31; (with_reducible refine (hushref2_Compare.calls k1 _ _ ((rd_T64 l0 x13_1).f0) _ _ ((rd_T64 l1 x13_1).f0) t183 _ ?side1 ?side2 ?side3 ?side4 A9.out).mono ?_); (case side1 => repeat (first | exact HR181_0.out | (with_reducible refine Kd.C_alloc ?_ _) | (with_reducible refine Kd.C_drewN ?_ _) | (with_reducible refine Kd.C_drew ?_))); (case side2 => exact HC181_0.out); (case side3 => repeat (first | exact HR182_0.out | (with_reducible refine Kd.C_alloc ?_ _) | (with_reducible refine Kd.C_drewN ?_ _) | (with_reducible refine Kd.C_drew ?_))); (case side4 => exact HC182_0.out); rintro e w' ⟨rfl, ⟨nd, rfl⟩⟩; (try first | exact ⟨rfl, _, World.drewN_drewN _ _ _⟩ | exact ⟨rfl, _, Eq.trans (World.drewN_drewN _ _ _) (congrArg (World.drewN _) (Nat.add_assoc _ _ _))⟩))))
          go_roundg k1
          case measure => have := HK1.out; omega
          case rel => exact ⟨(wrap64 (x13_1 + 1)), rfl, H', ⟨by have := HK1.out; omega⟩, by repeat (first | exact Drawn0.refl _ | apply Drawn0.step)⟩
         ·
          rw [if_neg c10] at H
          have c10b0 : (t183 == 0) = false := beq_eq_false_iff_ne.mpr c10
          have c10b1 : (t183 != 0) = true := bne_iff_ne.mpr c10
          obtain rfl := Option.some.inj H
          have p179 : 0 ≤ (x13_1 : Int) := of_decide_eq_true (by (with_reducible assumption))
          have q179 : x13_1 < (l0.length : Int) := of_decide_eq_true (by (with_reducible assumption))
          obtain ⟨ad179, A179_0, c179_0, e179, hx179_0, hx179_1, hl179_0, hi179_0⟩ := at_T64 HR0.out x13_1 p179 q179
          cases e179
          have HR179_0 := Aside0.mk hi179_0
          have HC179_0 := Aside0.mk hl179_0
          clear hi179_0 hl179_0
          replace p179 := eq_true p179
          replace q179 := eq_true q179
          have p180 : 0 ≤ (x13_1 : Int) := of_decide_eq_true (by (with_reducible assumption))
          have q180 : x13_1 < (l1.length : Int) := of_decide_eq_true (by (with_reducible assumption))
          obtain ⟨ad180, A180_0, c180_0, e180, hx180_0, hx180_1, hl180_0, hi180_0⟩ := at_T64 HR1.out x13_1 p180 q180
          cases e180
          have HR180_0 := Aside0.mk hi180_0
          have HC180_0 := Aside0.mk hl180_0
          clear hi180_0 hl180_0
          replace p180 := eq_true p180
          replace q180 := eq_true q180
          have p181 : 0 ≤ (x13_1 : Int) := of_decide_eq_true (by (with_reducible assumption))
          have q181 : x13_1 < (l0.length : Int) := of_decide_eq_true (by (with_reducible assumption))
          obtain ⟨ad181, A181_0, c181_0, e181, hx181_0, hx181_1, hl181_0, hi181_0⟩ := at_T64 HR0.out x13_1 p181 q181
          obtain rfl : ad179 = ad181 := (by injection e181)
          have HR181_0 := Aside0.mk hi181_0
          have HC181_0 := Aside0.mk hl181_0
          clear hi181_0 hl181_0
          replace p181 := eq_true p181
          replace q181 := eq_true q181
          have ea_ := Option.some.inj (hx179_0.symm.trans hx181_0)
          injection ea_ with ea_ en_ ec_
          subst ea_
          subst ec_
          clear en_
          have p182 : 0 ≤ (x13_1 : Int) := of_decide_eq_true (by (with_reducible assumption))
          have q182 : x13_1 < (l1.length : Int) := of_decide_eq_true (by (with_reducible assumption))
          obtain ⟨ad182, A182_0, c182_0, e182, hx182_0, hx182_1, hl182_0, hi182_0⟩ := at_T64 HR1.out x13_1 p182 q182
          obtain rfl : ad180 = ad182 := (by injection e182)
          have HR182_0 := Aside0.mk hi182_0
          have HC182_0 := Aside0.mk hl182_0
          clear hi182_0 hl182_0
          replace p182 := eq_true p182
          replace q182 := eq_true q182
          have ea_ := Option.some.inj (hx180_0.symm.trans hx182_0)
          injection ea_ with ea_ en_ ec_
          subst ea_
          subst ec_
          clear en_
          go_wp2_with (first | (go_at_call 31; (with_reducible refine (hushref2_Compare.calls k1 _ _ ((rd_T64 l0 x13_1).f0) _ _ ((rd_T64 l1 x13_1).f0) t183 _ ?side1 ?side2 ?side3 ?side4 A9.out).mono ?_); (case side1 => repeat (first | exact HR181_0.out | (with_reducible refine Kd.C_alloc ?_ _) | (with_reducible refine Kd.C_drewN ?_ _) | (with_reducible refine Kd.C_drew ?_))); (case side2 => exact HC181_0.out); (case side3 => repeat (first | exact HR182_0.out | (with_reducible refine Kd.C_alloc ?_ _) | (with_reducible refine Kd.C_drewN ?_ _) | (with_reducible refine Kd.C_drew ?_))); (case side4 => exact HC182_0.out); rintro e w' ⟨rfl, ⟨nd, rfl⟩⟩; (try first | exact ⟨rfl, _, World.drewN_drewN _ _ _⟩ | exact ⟨rfl, _, Eq.trans (World.drewN_drewN _ _ _) (congrArg (World.drewN _) (Nat.add_assoc _ _ _))⟩)))
          repeat (go_quiet ((go_at_call 31; (with_reducible refine (hushref2_Compare.calls k1 _ _ ((rd_T64 l0 x13_1).f0) _ _ ((rd_T64 l1 x13_1).f0) t183 _ ?side1 ?side2 ?side3 ?side4 A9.out).mono ?_); (case side1 => repeat (exact HR181_0.out)); (case side2 => exact HC181_0.out); (case side3 => repeat (exact HR182_0.out)); (case side4 => exact HC182_0.out); rintro e w' ⟨rfl, ⟨nd, rfl⟩⟩; (try exact ⟨rfl, _, Eq.trans (World.drewN_drewN _ _ _) (congrArg (World.drewN _) (Nat.add_assoc _ _ _))⟩))); try go_wp2_with (first | (go_at_call 31; (with_reducible refine (hushref2_Compare.calls k1 _ _ ((rd_T64 l0 x13_1).f0) _ _ ((rd_T64 l1 x13_1).f0) t183 _ ?side1 ?side2 ?side3 ?side4 A9.out).mono ?_); (case side1 => repeat (first | exact HR181_0.out | (with_reducible refine Kd.C_alloc ?_ _) | (with_reducible refine Kd.C_drewN ?_ _) | (with_reducible refine Kd.C_drew ?_))); (case side2 => exact HC181_0.out); (case side3 => repeat (first | exact HR182_0.out | (with_reducible refine Kd.C_alloc ?_ _) | (with_reducible refine Kd.C_drewN ?_ _) | (with_reducible refine Kd.C_drew ?_))); (case side4 => exact HC182_0.out); rintro e w' ⟨rfl, ⟨nd, rfl⟩⟩; (try first | exact ⟨rfl, _, World.drewN_drewN _ _ _⟩ | exact ⟨rfl, _, Eq.trans (World.drewN_drewN _ _ _) (congrArg (World.drewN _) (Nat.add_assoc _ _ _))⟩))))
          go_ret
          exact ⟨rfl, by repeat (first | exact Drawn0.refl _ | apply Drawn0.step)⟩
        ·
         rw [if_neg c8] at H
         have c8b0 : (((rd_T64 l0 x13_1).f1) == ((rd_T64 l1 x13_1).f1)) = false := beq_eq_false_iff_ne.mpr c8
         have c8b1 : (((rd_T64 l0 x13_1).f1) != ((rd_T64 l1 x13_1).f1)) = true := bne_iff_ne.mpr c8
         obtain rfl := Option.some.inj H
         have p179 : 0 ≤ (x13_1 : Int) := of_decide_eq_true (by (with_reducible assumption))
         have q179 : x13_1 < (l0.length : Int) := of_decide_eq_true (by (with_reducible assumption))
         obtain ⟨ad179, A179_0, c179_0, e179, hx179_0, hx179_1, hl179_0, hi179_0⟩ := at_T64 HR0.out x13_1 p179 q179
         cases e179
         have HR179_0 := Aside0.mk hi179_0
         have HC179_0 := Aside0.mk hl179_0
         clear hi179_0 hl179_0
         replace p179 := eq_true p179
         replace q179 := eq_true q179
         have p180 : 0 ≤ (x13_1 : Int) := of_decide_eq_true (by (with_reducible assumption))
         have q180 : x13_1 < (l1.length : Int) := of_decide_eq_true (by (with_reducible assumption))
         obtain ⟨ad180, A180_0, c180_0, e180, hx180_0, hx180_1, hl180_0, hi180_0⟩ := at_T64 HR1.out x13_1 p180 q180
         cases e180
         have HR180_0 := Aside0.mk hi180_0
         have HC180_0 := Aside0.mk hl180_0
         clear hi180_0 hl180_0
         replace p180 := eq_true p180
         replace q180 := eq_true q180
         go_wp2
         repeat (go_quiet (fail); try go_wp2)
         go_ret
         exact ⟨rfl, by repeat (first | exact Drawn0.refl _ | apply Drawn0.step)⟩
       ·
        rw [if_neg c7] at H
        exact absurd H (by simp)
      ·
       rw [if_neg c6] at H
       exact absurd H (by simp)
     ·
      rw [if_neg c5] at H
      exact absurd H (by simp)
    ·
     rw [if_neg c4] at H
     have c4b0 : decide (x13_1 < (l0.length : Int)) = false := decide_eq_false c4
     clear c4
     obtain rfl := Option.some.inj H
     go_wp2
     repeat (go_quiet (fail); try go_wp2)
     go_ret
     exact ⟨rfl, by repeat (first | exact Drawn0.refl _ | apply Drawn0.step)⟩
 ·
  rw [if_neg c3] at H
  have c3b0 : ((l0.length : Int) == (l1.length : Int)) = false := beq_eq_false_iff_ne.mpr c3
  have c3b1 : ((l0.length : Int) != (l1.length : Int)) = true := bne_iff_ne.mpr c3
  have c3b2 : (l0.length == l1.length) = false := by (simp at c3 ⊢; omega)
  obtain rfl := Option.some.inj H
  go_enter Try.func10, Try.ntmps10
  go_wp2
  repeat (go_quiet (fail); try go_wp2)
  go_ret
  exact ⟨rfl, by repeat (exact Drawn0.refl _)⟩

end Go.Proofs.Ytjbgnlhgjgnclaa.PB

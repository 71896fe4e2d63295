/- Functions of the translated program as Lean functions, and what their calls come to: written by this session's own program (wip/xprint.py) over the kit's print. Conditions stand in each theorem. -/
import Derived.Test.YtfoolbcfpedhmaaPBx0
namespace Go.Proofs.Ytfoolbcfpedhmaa.PB
open Go.RowKit Go.Proofs.YtfoolbcfpedhmaaW.PrintWords Go.Proofs.YtfoolbcfpedhmaaW.PrintLast Go.Proofs.YtfoolbcfpedhmaaW.PrintMore
attribute [local go_sem] max2_int min2_int max_two min_two max_three min_three max_four min_four   -- for this text's walks alone
set_option linter.unusedVariables false
set_option linter.unusedSimpArgs false

/-! ### hushlaw13_wide: function 6 -/
def hushlaw13_wide.l0 : Nat → Int → Int → Int → Int → Option (Bool)
  | 0, _, _, _, _ => none
  | k + 1, x0, x5, x7, x8 => if x8 < x7 then (if x0 < 2 then (some false) else (if x0 = 0 then (none) else (if x5 > (wrap64 (Int.tdiv (1048576 : Int) x0)) then (some true) else (hushlaw13_wide.l0 k x0 (wrap64 (x5 * x0)) x7 (wrap64 (x8 + 1)))))) else (some false)
def hushlaw13_wide.f (k : Nat) (a0 : Int) (l1 : List Int) : Option (Bool) := hushlaw13_wide.l0 k a0 1 (l1.length : Int) 0
theorem hushlaw13_wide.mono_l : ∀ k, (∀ y0 y1 y2 y3, LeO (hushlaw13_wide.l0 k y0 y1 y2 y3) (hushlaw13_wide.l0 (k + 1) y0 y1 y2 y3))
  | 0 => fun _ _ _ _ r h => by simp [hushlaw13_wide.l0] at h
  | k + 1 => by
    have ih0 := hushlaw13_wide.mono_l k
    · intro y0 y1 y2 y3
      unfold hushlaw13_wide.l0
      repeat' first
      | (with_reducible exact ih0 _ _ _ _)
      | (with_reducible exact LeO.refl _)
      | (with_reducible exact LeO.none _)
      | (with_reducible refine LeO.ite ?_ ?_)
      | (with_reducible refine LeO.bind ?_ (fun _ => ?_))
      | exact ih0 _ _ _ _
      | exact LeO.none _
      | refine LeO.ite ?_ ?_
      | refine LeO.bind ?_ (fun _ => ?_)
theorem hushlaw13_wide.mono : ∀ a0 a1 k, LeO (hushlaw13_wide.f k a0 a1) (hushlaw13_wide.f (k + 1) a0 a1) := by
  intro a0 a1 k
  have ih0 := hushlaw13_wide.mono_l k
  unfold hushlaw13_wide.f
  repeat' first
      | (with_reducible exact ih0 _ _ _ _)
      | (with_reducible exact LeO.refl _)
      | (with_reducible exact LeO.none _)
      | (with_reducible refine LeO.ite ?_ ?_)
      | (with_reducible refine LeO.bind ?_ (fun _ => ?_))
      | exact ih0 _ _ _ _
      | exact LeO.none _
      | refine LeO.ite ?_ ?_
      | refine LeO.bind ?_ (fun _ => ?_)
set_option maxHeartbeats 8000000 in
set_option maxRecDepth 100000 in
theorem hushlaw13_wide.calls (k : Nat) (a0 : Int) (A1 : Option Addr) (c1 : Nat) (l1 : List Int) (r : Bool) (w : World) (hr1 : Kd.C (Kd.int .i64) w A1 l1.length l1) (hc1 : l1.length ≤ c1) (h : hushlaw13_wide.f k a0 l1 = some r) :
    Calls Try.prog 6 #[.int .i64 a0, .slice A1 l1.length c1] w fun e w' => e = .returned (.bool r) ∧ Drawn0 w w' := by
  have HR1 := Aside0.mk hr1
  have HC1 := Aside0.mk hc1
  clear hr1 hc1
  have H : (hushlaw13_wide.l0 k a0 1 (l1.length : Int) 0) = some r := h
  clear h
  have H' := Aside0.mk H
  clear H
  go_enter Try.func6, Try.ntmps6
  go_wp2
  go_loopg [5, 8] k (fun kq v5 v8 w' => ∃ (x5_1 : Int) (x8_1 : Int), v5 = .int .i64 x5_1 ∧ v8 = .int .i64 x8_1 ∧ Aside0 (hushlaw13_wide.l0 kq a0 x5_1 (l1.length : Int) x8_1 = some r) ∧ Aside0 (kq ≤ k) ∧ Drawn0 w w')
  case atStart => exact ⟨(1), (0), (by first | rfl | (simp; done) | (simp [*]; done)), (by first | rfl | (simp; done) | (simp [*]; done)), H', ⟨Nat.le_refl _⟩, by repeat (first | exact Drawn0.refl _ | apply Drawn0.step)⟩
  case round =>
    clear H'
    try clear c1
    try clear p2
    obtain ⟨x5_1, x8_1, rfl, rfl, HA, HK1, ⟨m1, rfl⟩⟩ := hrel
    cases gk with
    | zero => exact absurd HA.out (by simp [hushlaw13_wide.l0])
    | succ k1 =>
      have H := HA.out
      clear HA
      simp only [hushlaw13_wide.l0] at H
      by_cases c3 : x8_1 < (l1.length : Int)
      · rw [if_pos c3] at H
        have c3b0 : decide (x8_1 < (l1.length : Int)) = true := decide_eq_true c3
        clear c3
        by_cases c4 : a0 < 2
        · rw [if_pos c4] at H
          have c4b0 : decide (a0 < 2) = true := decide_eq_true c4
          clear c4
          obtain rfl := Option.some.inj H
          go_wp2
          go_ret
          exact ⟨by first | rfl | (simp; done) | (simp [*]; done), by repeat (first | exact Drawn0.refl _ | apply Drawn0.step)⟩
        · rw [if_neg c4] at H
          have c4b0 : decide (a0 < 2) = false := decide_eq_false c4
          clear c4
          by_cases c5 : a0 = 0
          · rw [if_pos c5] at H
            exact absurd H (by simp)
          · rw [if_neg c5] at H
            have c5b0 : (a0 == 0) = false := beq_eq_false_iff_ne.mpr c5
            have c5b1 : (a0 != 0) = true := bne_iff_ne.mpr c5
            by_cases c6 : x5_1 > (wrap64 (Int.tdiv (1048576 : Int) a0))
            · rw [if_pos c6] at H
              have c6b0 : decide ((wrap64 (Int.tdiv (1048576 : Int) a0)) < x5_1) = true := decide_eq_true c6
              clear c6
              obtain rfl := Option.some.inj H
              go_wp2
              go_ret
              exact ⟨by first | rfl | (simp; done) | (simp [*]; done), by repeat (first | exact Drawn0.refl _ | apply Drawn0.step)⟩
            · rw [if_neg c6] at H
              have c6b0 : decide ((wrap64 (Int.tdiv (1048576 : Int) a0)) < x5_1) = false := decide_eq_false c6
              clear c6
              have H' := Aside0.mk H
              clear H
              go_wp2
              go_roundg k1
              case measure => have := HK1.out; omega
              case rel => exact ⟨(wrap64 (x5_1 * a0)), (wrap64 (x8_1 + 1)), (by first | rfl | (simp; done) | (simp [*]; done)), (by first | rfl | (simp; done) | (simp [*]; done)), H', ⟨by have := HK1.out; omega⟩, by repeat (first | exact Drawn0.refl _ | apply Drawn0.step)⟩
      · rw [if_neg c3] at H
        have c3b0 : decide (x8_1 < (l1.length : Int)) = false := decide_eq_false c3
        clear c3
        obtain rfl := Option.some.inj H
        go_wp2
        go_ret
        exact ⟨by first | rfl | (simp; done) | (simp [*]; done), by repeat (first | exact Drawn0.refl _ | apply Drawn0.step)⟩

/-! ### bits_Mul32: function 48 -/
def bits_Mul32.f (a0 : Int) (a1 : Int) : Option (Int × Int) := some (((IntKind.u64.wrap ((IntKind.u64.wrap (a0)) * (IntKind.u64.wrap (a1)))) / 4294967296) % 4294967296, (IntKind.u64.wrap ((IntKind.u64.wrap (a0)) * (IntKind.u64.wrap (a1)))) % 4294967296)
set_option maxHeartbeats 8000000 in
set_option maxRecDepth 100000 in
theorem bits_Mul32.calls (a0 : Int) (a1 : Int) (r1 : Int) (r2 : Int) (w : World) (h : bits_Mul32.f a0 a1 = some (r1, r2)) :
    Calls Try.prog 48 #[.int .u32 a0, .int .u32 a1] w fun e w' => e = .returned (.tuple #[.int .u32 r1, .int .u32 r2]) ∧ Drawn0 w w' := by
  have H : (some (((IntKind.u64.wrap ((IntKind.u64.wrap (a0)) * (IntKind.u64.wrap (a1)))) / 4294967296) % 4294967296, (IntKind.u64.wrap ((IntKind.u64.wrap (a0)) * (IntKind.u64.wrap (a1)))) % 4294967296)) = some (r1, r2) := h
  clear h
  simp only [Option.some.injEq, Prod.mk.injEq] at H
  obtain ⟨rfl, rfl⟩ := H
  go_enter Try.func48, Try.ntmps48
  go_wp2
  go_ret2
  exact ⟨by first | rfl | (simp; done) | (simp [*]; done), by repeat (first | exact Drawn0.refl _ | apply Drawn0.step)⟩

/-! ### bits_Mul64: function 49 -/
def bits_Mul64.f (a0 : Int) (a1 : Int) : Option (Int × Int) := some (IntKind.u64.wrap ((IntKind.u64.wrap ((IntKind.u64.wrap ((a0 / 4294967296) * (a1 / 4294967296))) + ((IntKind.u64.wrap ((IntKind.u64.wrap ((a0 / 4294967296) * (Go.bits .and .u64 a1 4294967295))) + ((IntKind.u64.wrap ((Go.bits .and .u64 a0 4294967295) * (Go.bits .and .u64 a1 4294967295))) / 4294967296))) / 4294967296))) + ((IntKind.u64.wrap ((Go.bits .and .u64 (IntKind.u64.wrap ((IntKind.u64.wrap ((a0 / 4294967296) * (Go.bits .and .u64 a1 4294967295))) + ((IntKind.u64.wrap ((Go.bits .and .u64 a0 4294967295) * (Go.bits .and .u64 a1 4294967295))) / 4294967296))) 4294967295) + (IntKind.u64.wrap ((Go.bits .and .u64 a0 4294967295) * (a1 / 4294967296))))) / 4294967296)), IntKind.u64.wrap (a0 * a1))
set_option maxHeartbeats 8000000 in
set_option maxRecDepth 100000 in
theorem bits_Mul64.calls (a0 : Int) (a1 : Int) (r1 : Int) (r2 : Int) (w : World) (h : bits_Mul64.f a0 a1 = some (r1, r2)) :
    Calls Try.prog 49 #[.int .u64 a0, .int .u64 a1] w fun e w' => e = .returned (.tuple #[.int .u64 r1, .int .u64 r2]) ∧ Drawn0 w w' := by
  have H : (some (IntKind.u64.wrap ((IntKind.u64.wrap ((IntKind.u64.wrap ((a0 / 4294967296) * (a1 / 4294967296))) + ((IntKind.u64.wrap ((IntKind.u64.wrap ((a0 / 4294967296) * (Go.bits .and .u64 a1 4294967295))) + ((IntKind.u64.wrap ((Go.bits .and .u64 a0 4294967295) * (Go.bits .and .u64 a1 4294967295))) / 4294967296))) / 4294967296))) + ((IntKind.u64.wrap ((Go.bits .and .u64 (IntKind.u64.wrap ((IntKind.u64.wrap ((a0 / 4294967296) * (Go.bits .and .u64 a1 4294967295))) + ((IntKind.u64.wrap ((Go.bits .and .u64 a0 4294967295) * (Go.bits .and .u64 a1 4294967295))) / 4294967296))) 4294967295) + (IntKind.u64.wrap ((Go.bits .and .u64 a0 4294967295) * (a1 / 4294967296))))) / 4294967296)), IntKind.u64.wrap (a0 * a1))) = some (r1, r2) := h
  clear h
  simp only [Option.some.injEq, Prod.mk.injEq] at H
  obtain ⟨rfl, rfl⟩ := H
  go_enter Try.func49, Try.ntmps49
  go_wp2
  go_ret2
  exact ⟨by first | rfl | (simp; done) | (simp [*]; done), by repeat (first | exact Drawn0.refl _ | apply Drawn0.step)⟩

/-! ### bits_Mul: function 34 -/
def bits_Mul.f (a0 : Int) (a1 : Int) : Option (Int × Int) := (bits_Mul64.f a0 a1).bind fun bt101 => (some (bt101.1, bt101.2))
set_option maxHeartbeats 8000000 in
set_option maxRecDepth 100000 in
theorem bits_Mul.calls (a0 : Int) (a1 : Int) (r1 : Int) (r2 : Int) (w : World) (h : bits_Mul.f a0 a1 = some (r1, r2)) :
    Calls Try.prog 34 #[.int .u64 a0, .int .u64 a1] w fun e w' => e = .returned (.tuple #[.int .u64 r1, .int .u64 r2]) ∧ Drawn0 w w' := by
  have H : ((bits_Mul64.f a0 a1).bind fun bt101 => (some (bt101.1, bt101.2))) = some (r1, r2) := h
  clear h
  replace H := Option.bind_eq_some_iff.mp H
  obtain ⟨⟨t101, t102⟩, A30, H⟩ := H
  replace H : (some (t101, t102)) = some (r1, r2) := H
  have A3 := Aside0.mk A30
  clear A30
  simp only [Option.some.injEq, Prod.mk.injEq] at H
  obtain ⟨rfl, rfl⟩ := H
  go_enter Try.func34, Try.ntmps34
  go_wp2_with (first | ((with_reducible refine gate_callee (f := 49) rfl ?_); refine goesL_ (some 25) rfl rfl Try.func49 (by kernel_rfl) rfl #[.int .u64 a0, .int .u64 a1] rfl (by (try simp only [List.map_toArray, List.map_cons, List.map_nil]); first | done | rfl | (simp only [List.length_drop, List.length_take]; rfl)) ?_; (with_reducible refine (bits_Mul64.calls a0 a1 t101 t102 _ A3.out).mono ?_); rintro e w' ⟨rfl, ⟨nd, rfl⟩⟩; refine ⟨_, rfl, ?_⟩))
  go_ret2
  exact ⟨by first | rfl | (simp; done) | (simp [*]; done), by repeat (first | exact Drawn0.refl _ | apply Drawn0.step)⟩

/-! ### slices_Repeat_int_int: function 18 -/
theorem slices_Repeat_int_int.mul_all : ∀ x : Fin 65, ∀ y : Fin 64, bits_Mul.f 1 ((x.val * 64 + y.val : Nat) : Int) = some (0, ((x.val * 64 + y.val : Nat) : Int)) := by decide +kernel
theorem slices_Repeat_int_int.mul_is {n : Nat} (h : n ≤ 4096) : bits_Mul.f 1 (n : Int) = some (0, (n : Int)) := by
  have e := slices_Repeat_int_int.mul_all ⟨n / 64, by omega⟩ ⟨n % 64, by omega⟩
  dsimp only at e
  rw [show n / 64 * 64 + n % 64 = n by omega] at e
  exact e
def slices_Repeat_int_int.f (l0 : List Int) (a1 : Int) : Option (List Int) := if l0.length = 1 ∧ 0 ≤ a1 ∧ a1 ≤ 4096 then some (List.replicate a1.toNat (l0.headD 0)) else none
theorem slices_Repeat_int_int.info : (Try.prog.info? 3).map (fun i => (i.zero, i.size, i.bytes)) = some (some (.int .i64 0), 1, 8) := by kernel_rfl
def slices_Repeat_int_int.Cells (g : Nat) (a : Int) (Z : List Value) (m : Nat) (w : World) : Prop := w.heap[g]? = some (.cells (List.replicate m (Value.int .i64 a) ++ Z.drop m).toArray 3 (0, 0))
theorem slices_Repeat_int_int.splice_rep (a : Int) (Z : List Value) (m c : Nat) (h : m + c ≤ Z.length) : splice (List.replicate m (Value.int .i64 a) ++ Z.drop m) m (List.replicate c (Value.int .i64 a)) = List.replicate (m + c) (Value.int .i64 a) ++ Z.drop (m + c) := by
  unfold splice
  rw [List.take_append_of_le_length (by simp), List.take_of_length_le (by simp), List.drop_append, List.length_replicate, List.length_replicate, List.drop_of_length_le (by simp), List.nil_append, List.drop_drop, ← List.append_assoc, List.replicate_append_replicate]
  congr 2
  omega
set_option maxHeartbeats 4000000 in
set_option maxRecDepth 100000 in
theorem slices_Repeat_int_int.walk (a : Int) (n : Nat) (hn : n ≤ 4096) (A0 : Option Addr) (c0 : Nat) (w : World) (hr0 : Kd.C (Kd.int .i64) w A0 1 [a]) (hc0 : 1 ≤ c0) :
    Calls Try.prog 18 #[.slice A0 1 c0, .int .i64 n] w fun e w' => ∃ v0_ : Value, e = .returned v0_ ∧ Kd.R (Kd.int .i64) 3 w' w.heap.size (fun _ => True) v0_ (List.replicate n a) ∧ Below w.heap.size w w' := by
  obtain ⟨i0, hi, hz0, hz1, hz2⟩ := info_parts slices_Repeat_int_int.info
  have HM := Aside0.mk (slices_Repeat_int_int.mul_is hn)
  have HC := Aside0.mk hr0
  clear hr0
  go_enter Try.func18, Try.ntmps18
  go_wp2_with (first | (go_at_call 34; (with_reducible refine (bits_Mul.calls _ _ _ _ _ HM.out).mono ?_); rintro e w' ⟨rfl, ⟨nd, rfl⟩⟩) | (with_reducible refine wpList_make_full _ rfl (.tmp 29) (.tmp 29) 24 rfl w.heap.size 3 i0 (.int .i64 0) 1 Try.underlying24 hi hz0 hz1 .i64 .i64 (n : Int) (n : Int) n rfl rfl rfl rfl ?mb2 ?mb3 ?mb4 ?mk))
  case mb2 => rw [hz2]; omega
  case mb3 => unfold maxLen; omega
  case mb4 => exact Nat.le_refl _
  case mk =>
    intro w1 hown hgr
    have hB1 : Below w.heap.size w w1 := (show Below w.heap.size w (w.drewN nd) from ⟨rfl, rfl, rfl, Nat.le_refl _, fun _ _ => rfl⟩).grown hgr (Nat.le_refl _) (fun k e => by cases e)
    obtain ⟨Z, hZ, hcell⟩ : ∃ Z : List Value, Z.length = n ∧ w1.heap[w.heap.size]? = some (.cells Z.toArray 3 (0, 0)) := by
      obtain ⟨_, ⟨e, _⟩ | ⟨g, cap, cur, e, hb, hgb, h1, h2, h3, h4⟩⟩ := hown
      · cases e
      · cases e
        exact ⟨cur.toList, by simpa using h3, by simpa using hgb⟩
    have HZ := Aside0.mk hZ
    have HCELL := Aside0.mk hcell
    have hsz : (Try.prog.info? 3).map (·.size) = some 1 := by rw [hi]; simp [hz1]
    have HSZ := Aside0.mk hsz
    clear hown hgr hZ hcell hsz hi hz0 hz1 hz2
    have hsrc : 0 < n → ∃ ad, A0 = some ad ∧ w1.cell? ad = some (.int .i64 a) := by
      intro _
      obtain ⟨_, hbig, hr⟩ := Kd.C_below HC.out hB1
      obtain ⟨ad, rfl, hc⟩ := hr (by omega)
      refine ⟨ad, rfl, ?_⟩
      obtain ⟨c, _, hcs, hcc⟩ := hc 0 a rfl
      have hcs' : c = [.int .i64 a] := hcs
      have := hcc 0 (.int .i64 a) (by rw [hcs']; rfl)
      simpa [Addr.add, Kd.int] using this
    have HSRC := Aside0.mk hsrc
    clear hsrc
    go_wp2_with (with_reducible refine wpList_copy_splice rfl (.tmp 31) (.tmp 32) 24 24 rfl 3 Try.underlying24 HSZ.out (some ⟨w.heap.size, 0, none⟩) A0 n n 1 c0 rfl rfl w.heap.size 0 Z 3 HCELL.out (List.replicate (Nat.min 1 n) (Value.int .i64 a)) ?pn ?pp ?pf ?p1 w.heap.size w hB1 (Nat.le_refl _) ?pk)
    case pn => simp
    case pp =>
      intro hp
      try rw [List.length_replicate] at hp
      have h0 : 0 < n := by have : Nat.min 1 n ≤ n := Nat.min_le_right _ _; omega
      obtain ⟨ad, e, hc⟩ := HSRC.out h0
      refine ⟨ad, e, fun j v hj => ?_⟩
      obtain ⟨hl, hv⟩ := List.getElem?_eq_some_iff.1 hj
      rw [List.length_replicate] at hl
      have hj0 : j = 0 := by have : Nat.min 1 n ≤ 1 := Nat.min_le_left _ _; omega
      subst hj0
      rw [List.getElem_replicate] at hv
      rw [← hv]
      have e0 : ad.add 0 = ad := by simp [Addr.add]
      rw [e0]
      exact hc
    case pf => rw [List.length_replicate, HZ.out]; have : Nat.min 1 n ≤ n := Nat.min_le_right _ _; omega
    case p1 =>
      intro v hv
      rw [List.eq_of_mem_replicate hv]
      rfl
    case pk =>
      intro w2 hc2 hB2
      have hc2' : slices_Repeat_int_int.Cells w.heap.size a Z (Nat.min 1 n) w2 := by
        have h := slices_Repeat_int_int.splice_rep a Z 0 (Nat.min 1 n) (by rw [HZ.out]; have : Nat.min 1 n ≤ n := Nat.min_le_right _ _; omega)
        rw [List.replicate_zero, List.nil_append, List.drop_zero, Nat.zero_add] at h
        unfold slices_Repeat_int_int.Cells
        rw [← h]
        exact hc2
      try rw [List.length_replicate]
      clear hc2 HSRC HCELL hB1
      have hm1 : Nat.min 1 n ≤ n := Nat.min_le_right _ _
      have hm2 : 0 < n → 1 ≤ Nat.min 1 n := fun h => Nat.le_min.2 ⟨Nat.le_refl 1, h⟩
      generalize Nat.min 1 n = m0 at *
      go_wp2
      go_loopw [8] (fun v8 wr => ∃ m : Nat, v8 = .int .i64 m ∧ m ≤ n ∧ (0 < n → 1 ≤ m) ∧ slices_Repeat_int_int.Cells w.heap.size a Z m wr ∧ Below w.heap.size w wr) (fun v8 _ => n - (intOf v8).toNat)
      case atStart => exact ⟨m0, rfl, hm1, hm2, hc2', hB2⟩
      case round =>
        obtain ⟨m, rfl, hm, hm3, hc, hB⟩ := hrel
        by_cases hlt : m < n
        · have hm4 := hm3 (by omega)
          have hw1 : IntKind.i64.wrap ((m : Int) + ((Nat.min m (n - m) : Nat) : Int)) = ((m + Nat.min m (n - m) : Nat) : Int) := by
            have h1 : Nat.min m (n - m) ≤ n - m := Nat.min_le_right _ _
            rw [IntWalk.i64_in _ (by omega)]; omega
          have hw2 : ((n : Int) - (m : Int)).toNat = n - m := by omega
          have HW := Aside0.mk hw1
          have hnm : ¬ n = m := by omega
          clear hw1
          have hlen : (List.replicate (Nat.min m (n - m)) (Value.int .i64 a)).length = Nat.min m (n - m) := List.length_replicate
          have hmin : Nat.min m (n - m) ≤ n - m := Nat.min_le_right _ _
          have hfit : m + (List.replicate (Nat.min m (n - m)) (Value.int .i64 a)).length ≤ (List.replicate m (Value.int .i64 a) ++ Z.drop m).length := by
            rw [hlen, List.length_append, List.length_replicate, List.length_drop, HZ.out]; omega
          have hone : ∀ v ∈ List.replicate (Nat.min m (n - m)) (Value.int .i64 a), v.oneCell' = true := fun v hv => by rw [List.eq_of_mem_replicate hv]; rfl
          have hcl : ∀ j v, (List.replicate (Nat.min m (n - m)) (Value.int .i64 a))[j]? = some v → wr.cell? (Addr.add ⟨w.heap.size, 0, none⟩ j) = some v := by
            intro j v hj
            obtain ⟨hl, hv⟩ := List.getElem?_eq_some_iff.1 hj
            rw [hlen] at hl
            have hjm : j < m := by have : Nat.min m (n - m) ≤ m := Nat.min_le_left _ _; omega
            rw [List.getElem_replicate] at hv
            have h := blk_cell hc j
            rw [← hv]
            have e0 : Addr.add ⟨w.heap.size, 0, none⟩ j = ⟨w.heap.size, j, none⟩ := by
              unfold Addr.add
              by_cases h0 : j = 0
              · subst h0; simp
              · simp [h0]
            rw [e0]
            simpa [List.getElem?_append, hjm] using h
          have hBd : ∀ q, Below w.heap.size w (wr.drewN q) := fun q => hB.trans ⟨rfl, rfl, rfl, Nat.le_refl _, fun _ _ => rfl⟩
          have HLEN := Aside0.mk hlen
          have HFIT := Aside0.mk hfit
          have HONE := Aside0.mk hone
          have HCL := Aside0.mk hcl
          have HBD := Aside0.mk hBd
          have HCC := Aside0.mk hc
          clear hlen hfit hone hcl hBd hc
          go_wp2
          go_region_law (refine step_copy_splice rfl (.tmp 41) (.tmp 44) 24 24 rfl 3 Try.underlying24 HSZ.out (some ⟨w.heap.size, m, none⟩) (some ⟨w.heap.size, 0, none⟩) (n - m) (n - m) m n (by first | (go_simp; done) | (simp [Act.put, Act.eval, hnm]; done)) (by first | (go_simp; done) | (simp [Act.put, Act.eval]; done)) w.heap.size m (List.replicate m (Value.int .i64 a) ++ Z.drop m) 3 HCC.out (List.replicate (Nat.min m (n - m)) (Value.int .i64 a)) HLEN.out (fun _ => ⟨rfl, _, rfl, HCL.out⟩) HFIT.out HONE.out w.heap.size w (HBD.out 1) (Nat.le_refl _) ?_; intro w4 hg4 hb4)
          have hc4 : slices_Repeat_int_int.Cells w.heap.size a Z (m + Nat.min m (n - m)) w4 := by
            unfold slices_Repeat_int_int.Cells
            rw [← slices_Repeat_int_int.splice_rep a Z m (Nat.min m (n - m)) (by rw [HZ.out]; omega)]
            exact hg4
          have hmn1 : 1 ≤ Nat.min m (n - m) := Nat.le_min.2 ⟨hm4, by omega⟩
          generalize hq : Nat.min m (n - m) = q at *
          clear hq hg4
          have hw1 := HW.out
          go_simp
          clear hw1
          go_roundw
          case rel =>
            (repeat apply Exists.intro)
            exact ⟨⟨m + q, by go_num, by omega, fun _ => by omega, hc4, hb4⟩, rfl⟩
          case measure => simp [intOf]; omega
        · have hmn : m = n := by omega
          subst hmn
          go_wp2
          go_ret
          have own : wr.ownsRow w.heap.size 3 1 (.slice (some ⟨w.heap.size, 0, none⟩) m m) m (List.replicate m (Value.int .i64 a)) := ⟨by simp, .inr ⟨w.heap.size, m, _, rfl, Nat.le_refl _, hc, Nat.le_refl _, by unfold maxLen; omega, by simp [HZ.out], by simp⟩⟩
          refine ⟨_, rfl, Kd.R_of_own (enc := fun x : Int => Value.int .i64 x) ?_ (fun _ _ => trivial), hB⟩
          rw [List.length_replicate]
          simpa [encs] using own
theorem slices_Repeat_int_int.calls (A0 : Option Addr) (c0 : Nat) (l0 : List Int) (a1 : Int) (r : List Int) (w : World) (hr0 : Kd.C (Kd.int .i64) w A0 l0.length l0) (hc0 : l0.length ≤ c0) (h : slices_Repeat_int_int.f l0 a1 = some r) :
    Calls Try.prog 18 #[.slice A0 l0.length c0, .int .i64 a1] w fun e w' => ∃ v0_ : Value, e = .returned v0_ ∧ Kd.R (Kd.int .i64) 3 w' w.heap.size (fun _ => True) v0_ r ∧ Below w.heap.size w w' := by
  unfold slices_Repeat_int_int.f at h
  split at h
  · rename_i hG
    obtain ⟨h1, h2, h3⟩ := hG
    injection h with h
    subst h
    obtain ⟨n, rfl⟩ := Int.eq_ofNat_of_zero_le h2
    match l0, h1 with
    | [a], _ => exact slices_Repeat_int_int.walk a n (by omega) A0 c0 w hr0 hc0
  · cases h


/-! ### slices_Clone_int_int: function 19 -/
def slices_Clone_int_int.f (l0 : List Int) : Option (List Int) := if l0.length < 17592186044416 then some l0 else none
theorem clone_info : (Try.prog.info? 3).map (fun i => (i.zero, i.size, i.bytes)) = some (some (.int .i64 0), 1, 8) := by kernel_rfl
set_option maxHeartbeats 2000000 in
set_option maxRecDepth 100000 in
theorem slices_Clone_int_int.calls (A0 : Option Addr) (c0 : Nat) (l0 : List Int) (r : List Int) (w : World) (hr0 : Kd.C (Kd.int .i64) w A0 l0.length l0) (hc0 : l0.length ≤ c0) (h : slices_Clone_int_int.f l0 = some r) :
    Calls Try.prog 19 #[.slice A0 l0.length c0] w fun e w' => ∃ v0_ : Value, e = .returned v0_ ∧ Kd.R (Kd.int .i64) 3 w' w.heap.size (fun _ => True) v0_ r ∧ Below w.heap.size w w' := by
  unfold slices_Clone_int_int.f at h
  split at h
  · rename_i hlt
    injection h with h
    subst h
    have q24 : ∀ (w : World) (a : Option Addr) (n c n' c' : Nat), (binOp .eql 24 (.slice a n c) (.slice none n' c')).run Try.prog w = .ok (.bool a.isNone) w := fun w a n c n' c' => Lib.run_eql_slice_nil w _ _ a n c n' c' Try.underlying24
    obtain ⟨i0, hi, hz0, hz1, hz2⟩ := info_parts clone_info
    cases A0 with
    | none =>
      have hl : l0 = [] := by
        rcases Nat.eq_zero_or_pos l0.length with h | h
        · exact List.eq_nil_of_length_eq_zero h
        · obtain ⟨ad, e, _⟩ := hr0.2.2 h
          cases e
      subst hl
      clear hr0
      go_enter Try.func19, Try.ntmps19
      go_wp2
      go_ret
      exact ⟨_, rfl, Kd.R_nil _ _ _ _ _, Below.refl _ _⟩
    | some ad =>
      have HC := Aside0.mk hr0
      clear hr0
      go_enter Try.func19, Try.ntmps19
      go_wp2_with (at_builtin; refine wpList_append_own _ rfl _ _ 24 rfl w.heap.size 3 i0 (.int .i64 0) 1 8 Try.underlying24 hi hz0 hz1 hz2 rfl (by decide) _ _ _ rfl (World.ownsRow_made w #[] 0 (Nat.le_refl _) (Nat.zero_le _) rfl) ad l0.length c0 (nums .i64 l0) rfl ?qc1 ?qc2 ?qc3 ?qc4 ?qc5 ?qc6 ?_)
      case qc1 => rw [nums_length, Nat.mul_one]
      case qc2 =>
        intro j u hj
        have hjl : j < l0.length := by
          have := (List.getElem?_eq_some_iff.1 hj).1
          rwa [nums_length] at this
        obtain ⟨ad', e, hcc⟩ := HC.out.2.2 (by omega)
        injection e with e
        subst e
        obtain ⟨cs, _, hK, hcell⟩ := hcc j l0[j] (List.getElem?_eq_getElem hjl)
        have hcs : cs = [.int .i64 l0[j]] := hK
        have h1 := hcell 0 (.int .i64 l0[j]) (by rw [hcs]; rfl)
        have hu : u = .int .i64 l0[j] := by
          unfold nums at hj
          rw [List.getElem?_map, List.getElem?_eq_getElem hjl] at hj
          injection hj with hj
          exact hj.symm
        rw [hu]
        have h2 : w.cell? (ad.add j) = some (.int .i64 l0[j]) := by simpa [show (Kd.int .i64).sz = 1 from rfl] using h1
        exact Lib.cell?_alloc_some _ h2
      case qc3 => intro u hu; obtain ⟨x, _, rfl⟩ := List.mem_map.1 hu; rfl
      case qc4 => unfold maxLen; omega
      case qc5 => omega
      case qc6 => simp
      intro v' w1 hown hgrow hnil
      go_wp2
      go_ret
      refine ⟨v', rfl, ?_, ((Below.refl _ w).alloc (Nat.le_refl _) _).grown hgrow (by simp) (by intro k hk; simp [Value.ownBlock] at hk; omega)⟩
      exact Kd.R_of_own hown (fun _ _ => trivial)
  · cases h


/-! ### dist_small_1: function 53 -/
def dist_small_1.f (a0 : Int) : Option (Bool) := if a0 < (-1073741824) then (some true) else (some (decide (a0 > 1073741824)))
set_option maxHeartbeats 8000000 in
set_option maxRecDepth 100000 in
theorem dist_small_1.calls (a0 : Int) (r : Bool) (w : World) (h : dist_small_1.f a0 = some r) :
    Calls Try.prog 53 #[.int .i64 a0] w fun e w' => e = .returned (.bool r) ∧ Drawn0 w w' := by
  have H : (if a0 < (-1073741824) then (some true) else (some (decide (a0 > 1073741824)))) = some r := h
  clear h
  by_cases c2 : a0 < (-1073741824)
  · rw [if_pos c2] at H
    have c2b0 : decide (a0 < (-1073741824)) = true := decide_eq_true c2
    clear c2
    obtain rfl := Option.some.inj H
    go_enter Try.func53, Try.ntmps53
    go_wp2
    go_ret
    exact ⟨by first | rfl | (simp; done) | (simp [*]; done), by repeat (first | exact Drawn0.refl _ | apply Drawn0.step)⟩
  · rw [if_neg c2] at H
    have c2b0 : decide (a0 < (-1073741824)) = false := decide_eq_false c2
    clear c2
    obtain rfl := Option.some.inj H
    go_enter Try.func53, Try.ntmps53
    go_wp2
    go_ret
    exact ⟨by first | rfl | (simp; done) | (simp [*]; done), by repeat (first | exact Drawn0.refl _ | apply Drawn0.step)⟩

end Go.Proofs.Ytfoolbcfpedhmaa.PB

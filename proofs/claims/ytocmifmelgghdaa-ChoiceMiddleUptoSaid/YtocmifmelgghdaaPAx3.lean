/- Functions of the translated program as Lean functions, and what their calls come to: written by this session's own program (wip/xprint.py) over the kit's print. Conditions stand in each theorem. -/
import Derived.Test.YtocmifmelgghdaaPAx0
namespace Go.Proofs.Ytocmifmelgghdaa.PA
open Go.RowKit Go.Proofs.YtocmifmelgghdaaW.PrintWords Go.Proofs.YtocmifmelgghdaaW.PrintLast Go.Proofs.YtocmifmelgghdaaW.PrintMore
attribute [local go_sem] max2_int min2_int max_two min_two max_three min_three max_four min_four   -- for this text's walks alone
set_option linter.unusedVariables false
set_option linter.unusedSimpArgs false

/-! ### choice_scores_int: function 23 -/
def choice_scores_int.f (l : List Int) : Option Int := if l.length = 0 then none else some (Lib.maxOf l)
set_option maxHeartbeats 2000000 in
theorem choice_scores_int.calls (A0 : Option Addr) (c0 : Nat) (l0 : List Int) (r : Int) (w : World) (hr0 : Kd.C (Kd.int .i64) w A0 l0.length l0) (hc0 : l0.length ≤ c0) (h : choice_scores_int.f l0 = some r) :
    Calls Try.prog 23 #[.slice A0 l0.length c0] w fun e w' => e = .returned (.int .i64 r) ∧ Drawn0 w w' := by
  unfold choice_scores_int.f at h
  split at h
  · cases h
  rename_i h0
  obtain rfl := Option.some.inj h
  obtain ⟨_, hbig, hr⟩ := hr0
  obtain ⟨ad, rfl, hc⟩ := hr (by omega)
  have cell : ∀ k, k < l0.length → w.cell? (ad.add k) = some (.int .i64 (l0[k]?.getD 0)) := by
    intro k hk
    have hg : l0[k]? = some l0[k] := List.getElem?_eq_getElem hk
    obtain ⟨c, _, hcs, hcc⟩ := hc k _ hg
    have hcs' : c = [.int .i64 l0[k]] := hcs
    have := hcc 0 (.int .i64 l0[k]) (by rw [hcs']; rfl)
    rw [hg]
    simpa [show (Kd.int .i64).sz = 1 from rfl] using this
  have h1 : w.cell? ad = some (.int .i64 (l0[0]?.getD 0)) := by
    have := cell 0 (by omega)
    simpa [Addr.add] using this
  have Hc := Aside0.mk cell
  have H1 := Aside0.mk hc
  clear cell hc hr h hc0
  have hpos : 0 < l0.length := by omega
  clear h0
  go_enter Try.func23, Try.ntmps23
  go_wp2
  go_loop [3, 4] (fun m i => ∃ k : Nat, 0 < k ∧ k ≤ l0.length ∧ i = .int .i64 k ∧ m = .int .i64 (Lib.maxOf (l0.take k))) (fun _ i => match i with | .int _ q => l0.length - q.toNat | _ => 0)
  case atStart => exact ⟨1, Nat.one_pos, hpos, rfl, by rw [Lib.maxOf_one]; simp [List.getD, hpos]⟩
  case round =>
    obtain ⟨k, hk0, hk, rfl, rfl⟩ := hrel
    have hcell : k < l0.length → w.cell? (ad.add k) = some (.int .i64 (l0[k]?.getD 0)) := fun h => Hc.out k h
    go_wp2
    · have hlt : k < l0.length := by assumption
      have e1 : ((k : Int) + 1 + 9223372036854775808) % 18446744073709551616 - 9223372036854775808 = ((k + 1 : Nat) : Int) := by omega
      go_round
      case rel => exact ⟨k + 1, Nat.succ_pos k, by omega, by go_num, by rw [Lib.maxOf_step l0 k hk0 (by omega)]; refine congrArg (Value.int .i64) ?_; rw [show l0.getD k 0 = l0[k] from by simp [List.getD, hlt]]; generalize l0[k] = x; generalize Lib.maxOf (List.take k l0) = m; rw [Int.max_def]; split <;> split <;> omega⟩
      case measure => simp; omega
    · have hge : ¬ k < l0.length := by assumption
      have : k = l0.length := by omega
      subst this
      go_ret
      exact ⟨by simp, Drawn0.refl _⟩


/-! ### choice_times: function 24 -/
def choice_times.l0 : Nat → Int → List Int → Int → Int → Option (Int)
  | 0, _, _, _, _ => none
  | k + 1, x3, x6, x7, x8 => if x8 < x7 then (if 0 ≤ x8 then (if x8 < (x6.length : Int) then (if (wrap64 (x3 * (rd x6 x8))) > 1073741824 then (some 1073741825) else (choice_times.l0 k (wrap64 (x3 * (rd x6 x8))) x6 x7 (wrap64 (x8 + 1)))) else (none)) else (none)) else (some x3)
def choice_times.f (k : Nat) (l0 : List Int) : Option (Int) := choice_times.l0 k 1 l0 (l0.length : Int) 0
theorem choice_times.mono_l : ∀ k, (∀ y0 y1 y2 y3, LeO (choice_times.l0 k y0 y1 y2 y3) (choice_times.l0 (k + 1) y0 y1 y2 y3))
  | 0 => fun _ _ _ _ r h => by simp [choice_times.l0] at h
  | k + 1 => by
    have ih0 := choice_times.mono_l k
    · intro y0 y1 y2 y3
      unfold choice_times.l0
      repeat' first
      | (with_reducible exact ih0 _ _ _ _)
      | (with_reducible exact LeO.refl _)
      | (with_reducible exact LeO.none _)
      | (with_reducible refine LeO.ite ?_ ?_)
      | (with_reducible refine LeO.bind ?_ (fun _ => ?_))
      | exact ih0 _ _ _ _
      | exact LeO.none _
      | refine LeO.ite ?_ ?_
      | refine LeO.bind ?_ (fun _ => ?_)
theorem choice_times.mono : ∀ a0 k, LeO (choice_times.f k a0) (choice_times.f (k + 1) a0) := by
  intro a0 k
  have ih0 := choice_times.mono_l k
  unfold choice_times.f
  repeat' first
      | (with_reducible exact ih0 _ _ _ _)
      | (with_reducible exact LeO.refl _)
      | (with_reducible exact LeO.none _)
      | (with_reducible refine LeO.ite ?_ ?_)
      | (with_reducible refine LeO.bind ?_ (fun _ => ?_))
      | exact ih0 _ _ _ _
      | exact LeO.none _
      | refine LeO.ite ?_ ?_
      | refine LeO.bind ?_ (fun _ => ?_)
set_option maxHeartbeats 8000000 in
set_option maxRecDepth 100000 in
theorem choice_times.calls (k : Nat) (A0 : Option Addr) (c0 : Nat) (l0 : List Int) (r : Int) (w : World) (hr0 : Kd.C (Kd.int .i64) w A0 l0.length l0) (hc0 : l0.length ≤ c0) (h : choice_times.f k l0 = some r) :
    Calls Try.prog 24 #[.slice A0 l0.length c0] w fun e w' => e = .returned (.int .i64 r) ∧ Drawn0 w w' := by
  have HR0 := Aside0.mk hr0
  have HC0 := Aside0.mk hc0
  clear hr0 hc0
  have H : (choice_times.l0 k 1 l0 (l0.length : Int) 0) = some r := h
  clear h
  have H' := Aside0.mk H
  clear H
  go_enter Try.func24, Try.ntmps24
  go_wp2
  go_loopg [3, 8] k (fun kq v3 v8 w' => ∃ (x3_1 : Int) (x8_1 : Int), v3 = .int .i64 x3_1 ∧ v8 = .int .i64 x8_1 ∧ Aside0 (choice_times.l0 kq x3_1 l0 (l0.length : Int) x8_1 = some r) ∧ Aside0 (kq ≤ k) ∧ Drawn0 w w')
  case atStart => exact ⟨(1), (0), (by first | rfl | (simp; done) | (simp [*]; done)), (by first | rfl | (simp; done) | (simp [*]; done)), H', ⟨Nat.le_refl _⟩, by repeat (first | exact Drawn0.refl _ | apply Drawn0.step)⟩
  case round =>
    clear H'
    obtain ⟨x3_1, x8_1, rfl, rfl, HA, HK1, ⟨m1, rfl⟩⟩ := hrel
    cases gk with
    | zero => exact absurd HA.out (by simp [choice_times.l0])
    | succ k1 =>
      have H := HA.out
      clear HA
      simp only [choice_times.l0] at H
      by_cases c2 : x8_1 < (l0.length : Int)
      · rw [if_pos c2] at H
        have c2b0 : decide (x8_1 < (l0.length : Int)) = true := decide_eq_true c2
        clear c2
        by_cases c3 : 0 ≤ x8_1
        · rw [if_pos c3] at H
          have c3b0 : decide (0 ≤ x8_1) = true := decide_eq_true c3
          clear c3
          by_cases c4 : x8_1 < (l0.length : Int)
          · rw [if_pos c4] at H
            have c4b0 : decide (x8_1 < (l0.length : Int)) = true := decide_eq_true c4
            clear c4
            by_cases c5 : (wrap64 (x3_1 * (rd l0 x8_1))) > 1073741824
            · rw [if_pos c5] at H
              have c5b0 : decide (1073741824 < (wrap64 (x3_1 * (rd l0 x8_1)))) = true := decide_eq_true c5
              clear c5
              obtain rfl := Option.some.inj H
              have p114 : 0 ≤ (x8_1 : Int) := of_decide_eq_true (by first | (with_reducible assumption) | assumption)
              have q114 : x8_1 < (l0.length : Int) := of_decide_eq_true (by first | (with_reducible assumption) | assumption)
              obtain ⟨ad114, e114, hx114_0⟩ := Kd.at_int HR0.out x8_1 p114 q114
              cases e114
              replace p114 := eq_true p114
              replace q114 := eq_true q114
              go_wp2
              go_ret
              exact ⟨by first | rfl | (simp; done) | (simp [*]; done), by repeat (first | exact Drawn0.refl _ | apply Drawn0.step)⟩
            · rw [if_neg c5] at H
              have c5b0 : decide (1073741824 < (wrap64 (x3_1 * (rd l0 x8_1)))) = false := decide_eq_false c5
              clear c5
              have H' := Aside0.mk H
              clear H
              have p114 : 0 ≤ (x8_1 : Int) := of_decide_eq_true (by first | (with_reducible assumption) | assumption)
              have q114 : x8_1 < (l0.length : Int) := of_decide_eq_true (by first | (with_reducible assumption) | assumption)
              obtain ⟨ad114, e114, hx114_0⟩ := Kd.at_int HR0.out x8_1 p114 q114
              cases e114
              replace p114 := eq_true p114
              replace q114 := eq_true q114
              go_wp2
              go_roundg k1
              case measure => have := HK1.out; omega
              case rel => exact ⟨(wrap64 (x3_1 * (rd l0 x8_1))), (wrap64 (x8_1 + 1)), (by first | rfl | (simp; done) | (simp [*]; done)), (by first | rfl | (simp; done) | (simp [*]; done)), H', ⟨by have := HK1.out; omega⟩, by repeat (first | exact Drawn0.refl _ | apply Drawn0.step)⟩
          · rw [if_neg c4] at H
            exact absurd H (by simp)
        · rw [if_neg c3] at H
          exact absurd H (by simp)
      · rw [if_neg c2] at H
        have c2b0 : decide (x8_1 < (l0.length : Int)) = false := decide_eq_false c2
        clear c2
        obtain rfl := Option.some.inj H
        go_wp2
        go_ret
        exact ⟨by first | rfl | (simp; done) | (simp [*]; done), by repeat (first | exact Drawn0.refl _ | apply Drawn0.step)⟩

/-! ### bits_Mul32: function 70 -/
def bits_Mul32.f (a0 : Int) (a1 : Int) : Option (Int × Int) := some (((IntKind.u64.wrap ((IntKind.u64.wrap (a0)) * (IntKind.u64.wrap (a1)))) / 4294967296) % 4294967296, (IntKind.u64.wrap ((IntKind.u64.wrap (a0)) * (IntKind.u64.wrap (a1)))) % 4294967296)
set_option maxHeartbeats 8000000 in
set_option maxRecDepth 100000 in
theorem bits_Mul32.calls (a0 : Int) (a1 : Int) (r1 : Int) (r2 : Int) (w : World) (h : bits_Mul32.f a0 a1 = some (r1, r2)) :
    Calls Try.prog 70 #[.int .u32 a0, .int .u32 a1] w fun e w' => e = .returned (.tuple #[.int .u32 r1, .int .u32 r2]) ∧ Drawn0 w w' := by
  have H : (some (((IntKind.u64.wrap ((IntKind.u64.wrap (a0)) * (IntKind.u64.wrap (a1)))) / 4294967296) % 4294967296, (IntKind.u64.wrap ((IntKind.u64.wrap (a0)) * (IntKind.u64.wrap (a1)))) % 4294967296)) = some (r1, r2) := h
  clear h
  simp only [Option.some.injEq, Prod.mk.injEq] at H
  obtain ⟨rfl, rfl⟩ := H
  go_enter Try.func70, Try.ntmps70
  go_wp2
  go_ret2
  exact ⟨by first | rfl | (simp; done) | (simp [*]; done), by repeat (first | exact Drawn0.refl _ | apply Drawn0.step)⟩

/-! ### bits_Mul64: function 71 -/
def bits_Mul64.f (a0 : Int) (a1 : Int) : Option (Int × Int) := some (IntKind.u64.wrap ((IntKind.u64.wrap ((IntKind.u64.wrap ((a0 / 4294967296) * (a1 / 4294967296))) + ((IntKind.u64.wrap ((IntKind.u64.wrap ((a0 / 4294967296) * (Go.bits .and .u64 a1 4294967295))) + ((IntKind.u64.wrap ((Go.bits .and .u64 a0 4294967295) * (Go.bits .and .u64 a1 4294967295))) / 4294967296))) / 4294967296))) + ((IntKind.u64.wrap ((Go.bits .and .u64 (IntKind.u64.wrap ((IntKind.u64.wrap ((a0 / 4294967296) * (Go.bits .and .u64 a1 4294967295))) + ((IntKind.u64.wrap ((Go.bits .and .u64 a0 4294967295) * (Go.bits .and .u64 a1 4294967295))) / 4294967296))) 4294967295) + (IntKind.u64.wrap ((Go.bits .and .u64 a0 4294967295) * (a1 / 4294967296))))) / 4294967296)), IntKind.u64.wrap (a0 * a1))
set_option maxHeartbeats 8000000 in
set_option maxRecDepth 100000 in
theorem bits_Mul64.calls (a0 : Int) (a1 : Int) (r1 : Int) (r2 : Int) (w : World) (h : bits_Mul64.f a0 a1 = some (r1, r2)) :
    Calls Try.prog 71 #[.int .u64 a0, .int .u64 a1] w fun e w' => e = .returned (.tuple #[.int .u64 r1, .int .u64 r2]) ∧ Drawn0 w w' := by
  have H : (some (IntKind.u64.wrap ((IntKind.u64.wrap ((IntKind.u64.wrap ((a0 / 4294967296) * (a1 / 4294967296))) + ((IntKind.u64.wrap ((IntKind.u64.wrap ((a0 / 4294967296) * (Go.bits .and .u64 a1 4294967295))) + ((IntKind.u64.wrap ((Go.bits .and .u64 a0 4294967295) * (Go.bits .and .u64 a1 4294967295))) / 4294967296))) / 4294967296))) + ((IntKind.u64.wrap ((Go.bits .and .u64 (IntKind.u64.wrap ((IntKind.u64.wrap ((a0 / 4294967296) * (Go.bits .and .u64 a1 4294967295))) + ((IntKind.u64.wrap ((Go.bits .and .u64 a0 4294967295) * (Go.bits .and .u64 a1 4294967295))) / 4294967296))) 4294967295) + (IntKind.u64.wrap ((Go.bits .and .u64 a0 4294967295) * (a1 / 4294967296))))) / 4294967296)), IntKind.u64.wrap (a0 * a1))) = some (r1, r2) := h
  clear h
  simp only [Option.some.injEq, Prod.mk.injEq] at H
  obtain ⟨rfl, rfl⟩ := H
  go_enter Try.func71, Try.ntmps71
  go_wp2
  go_ret2
  exact ⟨by first | rfl | (simp; done) | (simp [*]; done), by repeat (first | exact Drawn0.refl _ | apply Drawn0.step)⟩

/-! ### bits_Mul: function 62 -/
def bits_Mul.f (a0 : Int) (a1 : Int) : Option (Int × Int) := (bits_Mul64.f a0 a1).bind fun bt115 => (some (bt115.1, bt115.2))
set_option maxHeartbeats 8000000 in
set_option maxRecDepth 100000 in
theorem bits_Mul.calls (a0 : Int) (a1 : Int) (r1 : Int) (r2 : Int) (w : World) (h : bits_Mul.f a0 a1 = some (r1, r2)) :
    Calls Try.prog 62 #[.int .u64 a0, .int .u64 a1] w fun e w' => e = .returned (.tuple #[.int .u64 r1, .int .u64 r2]) ∧ Drawn0 w w' := by
  have H : ((bits_Mul64.f a0 a1).bind fun bt115 => (some (bt115.1, bt115.2))) = some (r1, r2) := h
  clear h
  replace H := Option.bind_eq_some_iff.mp H
  obtain ⟨⟨t115, t116⟩, A30, H⟩ := H
  replace H : (some (t115, t116)) = some (r1, r2) := H
  have A3 := Aside0.mk A30
  clear A30
  simp only [Option.some.injEq, Prod.mk.injEq] at H
  obtain ⟨rfl, rfl⟩ := H
  go_enter Try.func62, Try.ntmps62
  go_wp2_with (first | ((with_reducible refine gate_callee (f := 71) rfl ?_); refine goesL_ (some 25) rfl rfl Try.func71 (by kernel_rfl) rfl #[.int .u64 a0, .int .u64 a1] rfl (by (try simp only [List.map_toArray, List.map_cons, List.map_nil]); first | done | rfl | (simp only [List.length_drop, List.length_take]; rfl)) ?_; (with_reducible refine (bits_Mul64.calls a0 a1 t115 t116 _ A3.out).mono ?_); rintro e w' ⟨rfl, ⟨nd, rfl⟩⟩; refine ⟨_, rfl, ?_⟩))
  go_ret2
  exact ⟨by first | rfl | (simp; done) | (simp [*]; done), by repeat (first | exact Drawn0.refl _ | apply Drawn0.step)⟩

/-! ### slices_Repeat_int_int: function 46 -/
theorem slices_Repeat_int_int.mul_all : ∀ x : Fin 65, ∀ y : Fin 64, bits_Mul.f 1 ((x.val * 64 + y.val : Nat) : Int) = some (0, ((x.val * 64 + y.val : Nat) : Int)) := by decide +kernel
theorem slices_Repeat_int_int.mul_is {n : Nat} (h : n ≤ 4096) : bits_Mul.f 1 (n : Int) = some (0, (n : Int)) := by
  have e := slices_Repeat_int_int.mul_all ⟨n / 64, by omega⟩ ⟨n % 64, by omega⟩
  dsimp only at e
  rw [show n / 64 * 64 + n % 64 = n by omega] at e
  exact e
def slices_Repeat_int_int.f (l0 : List Int) (a1 : Int) : Option (List Int) := if l0.length = 1 ∧ 0 ≤ a1 ∧ a1 ≤ 4096 then some (List.replicate a1.toNat (l0.headD 0)) else none
theorem slices_Repeat_int_int.info : (Try.prog.info? 3).map (fun i => (i.zero, i.size, i.bytes)) = some (some (.int .i64 0), 1, 8) := by kernel_rfl
def slices_Repeat_int_int.Cells (g : Nat) (a : Int) (Z : List Value) (m : Nat) (w : World) : Prop := w.heap[g]? = some (.cells (List.replicate m (Value.int .i64 a) ++ Z.drop m).toArray 3 (0, 0))
theorem slices_Repeat_int_int.splice_rep (a : Int) (Z : List Value) (m c : Nat) (h : m + c ≤ Z.length) : splice (List.replicate m (Value.int .i64 a) ++ Z.drop m) m (List.replicate c (Value.int .i64 a)) = List.replicate (m + c) (Value.int .i64 a) ++ Z.drop (m + c) := by
  unfold splice
  rw [List.take_append_of_le_length (by simp), List.take_of_length_le (by simp), List.drop_append, List.length_replicate, List.length_replicate, List.drop_of_length_le (by simp), List.nil_append, List.drop_drop, ← List.append_assoc, List.replicate_append_replicate]
  congr 2
  omega
set_option maxHeartbeats 4000000 in
set_option maxRecDepth 100000 in
theorem slices_Repeat_int_int.walk (a : Int) (n : Nat) (hn : n ≤ 4096) (A0 : Option Addr) (c0 : Nat) (w : World) (hr0 : Kd.C (Kd.int .i64) w A0 1 [a]) (hc0 : 1 ≤ c0) :
    Calls Try.prog 46 #[.slice A0 1 c0, .int .i64 n] w fun e w' => ∃ v0_ : Value, e = .returned v0_ ∧ Kd.R (Kd.int .i64) 3 w' w.heap.size (fun _ => True) v0_ (List.replicate n a) ∧ Below w.heap.size w w' := by
  obtain ⟨i0, hi, hz0, hz1, hz2⟩ := info_parts slices_Repeat_int_int.info
  have HM := Aside0.mk (slices_Repeat_int_int.mul_is hn)
  have HC := Aside0.mk hr0
  clear hr0
  go_enter Try.func46, Try.ntmps46
  go_wp2_with (first | (go_at_call 62; (with_reducible refine (bits_Mul.calls _ _ _ _ _ HM.out).mono ?_); rintro e w' ⟨rfl, ⟨nd, rfl⟩⟩) | (with_reducible refine wpList_make_full _ rfl (.tmp 29) (.tmp 29) 22 rfl w.heap.size 3 i0 (.int .i64 0) 1 Try.underlying22 hi hz0 hz1 .i64 .i64 (n : Int) (n : Int) n rfl rfl rfl rfl ?mb2 ?mb3 ?mb4 ?mk))
  case mb2 => rw [hz2]; omega
  case mb3 => unfold maxLen; omega
  case mb4 => exact Nat.le_refl _
  case mk =>
    intro w1 hown hgr
    have hB1 : Below w.heap.size w w1 := (show Below w.heap.size w (w.drewN nd) from ⟨rfl, rfl, rfl, Nat.le_refl _, fun _ _ => rfl⟩).grown hgr (Nat.le_refl _) (fun k e => by cases e)
    obtain ⟨Z, hZ, hcell⟩ : ∃ Z : List Value, Z.length = n ∧ w1.heap[w.heap.size]? = some (.cells Z.toArray 3 (0, 0)) := by
      obtain ⟨_, ⟨e, _⟩ | ⟨g, cap, cur, e, hb, hgb, h1, h2, h3, h4⟩⟩ := hown
      · cases e
      · cases e
        exact ⟨cur.toList, by simpa using h3, by simpa using hgb⟩
    have HZ := Aside0.mk hZ
    have HCELL := Aside0.mk hcell
    have hsz : (Try.prog.info? 3).map (·.size) = some 1 := by rw [hi]; simp [hz1]
    have HSZ := Aside0.mk hsz
    clear hown hgr hZ hcell hsz hi hz0 hz1 hz2
    have hsrc : 0 < n → ∃ ad, A0 = some ad ∧ w1.cell? ad = some (.int .i64 a) := by
      intro _
      obtain ⟨_, hbig, hr⟩ := Kd.C_below HC.out hB1
      obtain ⟨ad, rfl, hc⟩ := hr (by omega)
      refine ⟨ad, rfl, ?_⟩
      obtain ⟨c, _, hcs, hcc⟩ := hc 0 a rfl
      have hcs' : c = [.int .i64 a] := hcs
      have := hcc 0 (.int .i64 a) (by rw [hcs']; rfl)
      simpa [Addr.add, Kd.int] using this
    have HSRC := Aside0.mk hsrc
    clear hsrc
    go_wp2_with (with_reducible refine wpList_copy_splice rfl (.tmp 31) (.tmp 32) 22 22 rfl 3 Try.underlying22 HSZ.out (some ⟨w.heap.size, 0, none⟩) A0 n n 1 c0 rfl rfl w.heap.size 0 Z 3 HCELL.out (List.replicate (Nat.min 1 n) (Value.int .i64 a)) ?pn ?pp ?pf ?p1 w.heap.size w hB1 (Nat.le_refl _) ?pk)
    case pn => simp
    case pp =>
      intro hp
      try rw [List.length_replicate] at hp
      have h0 : 0 < n := by have : Nat.min 1 n ≤ n := Nat.min_le_right _ _; omega
      obtain ⟨ad, e, hc⟩ := HSRC.out h0
      refine ⟨ad, e, fun j v hj => ?_⟩
      obtain ⟨hl, hv⟩ := List.getElem?_eq_some_iff.1 hj
      rw [List.length_replicate] at hl
      have hj0 : j = 0 := by have : Nat.min 1 n ≤ 1 := Nat.min_le_left _ _; omega
      subst hj0
      rw [List.getElem_replicate] at hv
      rw [← hv]
      have e0 : ad.add 0 = ad := by simp [Addr.add]
      rw [e0]
      exact hc
    case pf => rw [List.length_replicate, HZ.out]; have : Nat.min 1 n ≤ n := Nat.min_le_right _ _; omega
    case p1 =>
      intro v hv
      rw [List.eq_of_mem_replicate hv]
      rfl
    case pk =>
      intro w2 hc2 hB2
      have hc2' : slices_Repeat_int_int.Cells w.heap.size a Z (Nat.min 1 n) w2 := by
        have h := slices_Repeat_int_int.splice_rep a Z 0 (Nat.min 1 n) (by rw [HZ.out]; have : Nat.min 1 n ≤ n := Nat.min_le_right _ _; omega)
        rw [List.replicate_zero, List.nil_append, List.drop_zero, Nat.zero_add] at h
        unfold slices_Repeat_int_int.Cells
        rw [← h]
        exact hc2
      try rw [List.length_replicate]
      clear hc2 HSRC HCELL hB1
      have hm1 : Nat.min 1 n ≤ n := Nat.min_le_right _ _
      have hm2 : 0 < n → 1 ≤ Nat.min 1 n := fun h => Nat.le_min.2 ⟨Nat.le_refl 1, h⟩
      generalize Nat.min 1 n = m0 at *
      go_wp2
      go_loopw [8] (fun v8 wr => ∃ m : Nat, v8 = .int .i64 m ∧ m ≤ n ∧ (0 < n → 1 ≤ m) ∧ slices_Repeat_int_int.Cells w.heap.size a Z m wr ∧ Below w.heap.size w wr) (fun v8 _ => n - (intOf v8).toNat)
      case atStart => exact ⟨m0, rfl, hm1, hm2, hc2', hB2⟩
      case round =>
        obtain ⟨m, rfl, hm, hm3, hc, hB⟩ := hrel
        by_cases hlt : m < n
        · have hm4 := hm3 (by omega)
          have hw1 : IntKind.i64.wrap ((m : Int) + ((Nat.min m (n - m) : Nat) : Int)) = ((m + Nat.min m (n - m) : Nat) : Int) := by
            have h1 : Nat.min m (n - m) ≤ n - m := Nat.min_le_right _ _
            rw [IntWalk.i64_in _ (by omega)]; omega
          have hw2 : ((n : Int) - (m : Int)).toNat = n - m := by omega
          have HW := Aside0.mk hw1
          have hnm : ¬ n = m := by omega
          clear hw1
          have hlen : (List.replicate (Nat.min m (n - m)) (Value.int .i64 a)).length = Nat.min m (n - m) := List.length_replicate
          have hmin : Nat.min m (n - m) ≤ n - m := Nat.min_le_right _ _
          have hfit : m + (List.replicate (Nat.min m (n - m)) (Value.int .i64 a)).length ≤ (List.replicate m (Value.int .i64 a) ++ Z.drop m).length := by
            rw [hlen, List.length_append, List.length_replicate, List.length_drop, HZ.out]; omega
          have hone : ∀ v ∈ List.replicate (Nat.min m (n - m)) (Value.int .i64 a), v.oneCell' = true := fun v hv => by rw [List.eq_of_mem_replicate hv]; rfl
          have hcl : ∀ j v, (List.replicate (Nat.min m (n - m)) (Value.int .i64 a))[j]? = some v → wr.cell? (Addr.add ⟨w.heap.size, 0, none⟩ j) = some v := by
            intro j v hj
            obtain ⟨hl, hv⟩ := List.getElem?_eq_some_iff.1 hj
            rw [hlen] at hl
            have hjm : j < m := by have : Nat.min m (n - m) ≤ m := Nat.min_le_left _ _; omega
            rw [List.getElem_replicate] at hv
            have h := blk_cell hc j
            rw [← hv]
            have e0 : Addr.add ⟨w.heap.size, 0, none⟩ j = ⟨w.heap.size, j, none⟩ := by
              unfold Addr.add
              by_cases h0 : j = 0
              · subst h0; simp
              · simp [h0]
            rw [e0]
            simpa [List.getElem?_append, hjm] using h
          have hBd : ∀ q, Below w.heap.size w (wr.drewN q) := fun q => hB.trans ⟨rfl, rfl, rfl, Nat.le_refl _, fun _ _ => rfl⟩
          have HLEN := Aside0.mk hlen
          have HFIT := Aside0.mk hfit
          have HONE := Aside0.mk hone
          have HCL := Aside0.mk hcl
          have HBD := Aside0.mk hBd
          have HCC := Aside0.mk hc
          clear hlen hfit hone hcl hBd hc
          go_wp2
          go_region_law (refine step_copy_splice rfl (.tmp 41) (.tmp 44) 22 22 rfl 3 Try.underlying22 HSZ.out (some ⟨w.heap.size, m, none⟩) (some ⟨w.heap.size, 0, none⟩) (n - m) (n - m) m n (by first | (go_simp; done) | (simp [Act.put, Act.eval, hnm]; done)) (by first | (go_simp; done) | (simp [Act.put, Act.eval]; done)) w.heap.size m (List.replicate m (Value.int .i64 a) ++ Z.drop m) 3 HCC.out (List.replicate (Nat.min m (n - m)) (Value.int .i64 a)) HLEN.out (fun _ => ⟨rfl, _, rfl, HCL.out⟩) HFIT.out HONE.out w.heap.size w (HBD.out 1) (Nat.le_refl _) ?_; intro w4 hg4 hb4)
          have hc4 : slices_Repeat_int_int.Cells w.heap.size a Z (m + Nat.min m (n - m)) w4 := by
            unfold slices_Repeat_int_int.Cells
            rw [← slices_Repeat_int_int.splice_rep a Z m (Nat.min m (n - m)) (by rw [HZ.out]; omega)]
            exact hg4
          have hmn1 : 1 ≤ Nat.min m (n - m) := Nat.le_min.2 ⟨hm4, by omega⟩
          generalize hq : Nat.min m (n - m) = q at *
          clear hq hg4
          have hw1 := HW.out
          go_simp
          clear hw1
          go_roundw
          case rel =>
            (repeat apply Exists.intro)
            exact ⟨⟨m + q, by go_num, by omega, fun _ => by omega, hc4, hb4⟩, rfl⟩
          case measure => simp [intOf]; omega
        · have hmn : m = n := by omega
          subst hmn
          go_wp2
          go_ret
          have own : wr.ownsRow w.heap.size 3 1 (.slice (some ⟨w.heap.size, 0, none⟩) m m) m (List.replicate m (Value.int .i64 a)) := ⟨by simp, .inr ⟨w.heap.size, m, _, rfl, Nat.le_refl _, hc, Nat.le_refl _, by unfold maxLen; omega, by simp [HZ.out], by simp⟩⟩
          refine ⟨_, rfl, Kd.R_of_own (enc := fun x : Int => Value.int .i64 x) ?_ (fun _ _ => trivial), hB⟩
          rw [List.length_replicate]
          simpa [encs] using own
theorem slices_Repeat_int_int.calls (A0 : Option Addr) (c0 : Nat) (l0 : List Int) (a1 : Int) (r : List Int) (w : World) (hr0 : Kd.C (Kd.int .i64) w A0 l0.length l0) (hc0 : l0.length ≤ c0) (h : slices_Repeat_int_int.f l0 a1 = some r) :
    Calls Try.prog 46 #[.slice A0 l0.length c0, .int .i64 a1] w fun e w' => ∃ v0_ : Value, e = .returned v0_ ∧ Kd.R (Kd.int .i64) 3 w' w.heap.size (fun _ => True) v0_ r ∧ Below w.heap.size w w' := by
  unfold slices_Repeat_int_int.f at h
  split at h
  · rename_i hG
    obtain ⟨h1, h2, h3⟩ := hG
    injection h with h
    subst h
    obtain ⟨n, rfl⟩ := Int.eq_ofNat_of_zero_le h2
    match l0, h1 with
    | [a], _ => exact slices_Repeat_int_int.walk a n (by omega) A0 c0 w hr0 hc0
  · cases h


/-! ### choice_power: function 25 -/
def choice_power.f (k : Nat) (a0 : Int) (a1 : Int) : Option (Int) := (slices_Repeat_int_int.f (([a0] : List Int)) a1).bind fun t120 => ((choice_times.f k t120).bind fun t123 => (some t123))
theorem choice_power.mono : ∀ a0 a1 k, LeO (choice_power.f k a0 a1) (choice_power.f (k + 1) a0 a1) := by
  intro a0 a1 k
  unfold choice_power.f
  repeat' first
      | (with_reducible exact choice_times.mono _ _)
      | (with_reducible exact LeO.refl _)
      | (with_reducible exact LeO.none _)
      | (with_reducible refine LeO.ite ?_ ?_)
      | (with_reducible refine LeO.bind ?_ (fun _ => ?_))
      | exact choice_times.mono _ _
      | exact LeO.none _
      | refine LeO.ite ?_ ?_
      | refine LeO.bind ?_ (fun _ => ?_)
set_option maxHeartbeats 8000000 in
set_option maxRecDepth 100000 in
theorem choice_power.calls (k : Nat) (a0 : Int) (a1 : Int) (r : Int) (w : World) (h : choice_power.f k a0 a1 = some r) :
    Calls Try.prog 25 #[.int .i64 a0, .int .i64 a1] w fun e w' => e = .returned (.int .i64 r) ∧ Below w.heap.size w w' := by
  have HB := Aside0.mk (Below.refl w.heap.size w)
  have H : ((slices_Repeat_int_int.f (([a0] : List Int)) a1).bind fun t120 => ((choice_times.f k t120).bind fun t123 => (some t123))) = some r := h
  clear h
  obtain ⟨y117, hy117⟩ : ∃ y_ : List Int, y_ = (([a0] : List Int)) := ⟨_, rfl⟩
  replace H : ((slices_Repeat_int_int.f y117 a1).bind fun t120 => ((choice_times.f k t120).bind fun t123 => (some t123))) = some r := by first | (rw [hy117]; with_reducible exact H) | (have H2_ := (Option.bind_some _ _).symm.trans H; rw [hy117]; with_reducible exact H2_) | (have H2_ := (Option.bind_some _ _).symm.trans H; with_reducible exact H2_) | with_reducible exact H | (rw [hy117]; exact H) | exact H
  have Ny117 := Aside0.mk hy117
  clear hy117
  replace H := Option.bind_eq_some_iff.mp H
  obtain ⟨t120, A30, H⟩ := H
  replace H : ((choice_times.f k t120).bind fun t123 => (some t123)) = some r := H
  have A3 := Aside0.mk A30
  clear A30
  replace H := Option.bind_eq_some_iff.mp H
  obtain ⟨t123, A40, H⟩ := H
  replace H : (some t123) = some r := H
  have A4 := Aside0.mk A40
  clear A40
  obtain rfl := Option.some.inj H
  go_enter Try.func25, Try.ntmps25
  go_wp2_with (first | ((with_reducible refine gate_dst (N := 6) rfl ?_); refine Kd.R_lit (Kd.int .i64) _ 3 ?hg (N := 6) ?hd (xs := ([a0] : List Int)) (inner := [.int .i64 a0]) (ok := fun _ => True) (okp := fun _ => True) ?hr ?hp (fun _ hk => hk) trivial (Below.refl _ _) (Nat.le_refl _) (by simp) ?_; (case hd => rfl); (case hg => rfl); (case hr => first | (go_simp; done) | (go_simp; rfl)); (case hp => exact (Reps.one (show Kd.M (Kd.int .i64) _ _ _ a0 [.int .i64 a0] from rfl) (Reps.none _ _))); intro v118 w5 ho6 hb hg_ hnew_; clear hg_ hnew_; (first | rw [← Ny117.out] at ho6 | (simp only [Int.reduceToNat] at ho6; rw [← Ny117.out] at ho6)); have n0_ := Aside0.mk (Kd.R_lower ho6 (below_size (by repeat (first | (with_reducible first | exact HB.out | apply below_alloc | apply pw_below_drewN | apply below_drew1) | exact HB.out)))); have n1_ := Aside0.mk (below_step (by repeat (first | (with_reducible first | exact HB.out | apply below_alloc | apply pw_below_drewN | apply below_drew1) | exact HB.out)) hb); clear HB; have HO119 := n0_; have HB := n1_; clear n0_ n1_; clear hb ho6; obtain ⟨Ao7, co7, eo7⟩ := Kd.R_slice HO119.out; subst eo7) | ((with_reducible refine gate_callee (f := 46) rfl ?_); refine goesL_ (some 8) rfl rfl Try.func46 (by kernel_rfl) rfl #[.slice Ao7 y117.length co7, .int .i64 a1] rfl (by (try simp only [List.map_toArray, List.map_cons, List.map_nil]); first | done | rfl | (simp only [List.length_drop, List.length_take]; rfl)) ?_; (with_reducible refine (slices_Repeat_int_int.calls _ _ y117 a1 t120 _ ?side1 ?side2 A3.out).mono ?_); (case side1 => repeat (first | exact (Kd.R_reads' HO119.out).2.2 | (with_reducible refine Kd.C_alloc ?_ _) | (with_reducible refine Kd.C_drewN ?_ _) | (with_reducible refine Kd.C_drew ?_))); (case side2 => exact (Kd.R_reads' HO119.out).2.1); rintro e w8 ⟨v121, rfl, ho0, hb⟩; refine ⟨_, rfl, ?_⟩; have n0_ := Aside0.mk (Kd.R_elder' (by (with_reducible repeat (first | apply Kd.R_alloc | apply Kd.R_drewN | apply Kd.R_drew)); exact HO119.out) (Kd.R_base ho0) hb); have n1_ := Aside0.mk (Kd.R_lower (Kd.R_new' ho0 (Kd.R_lt (by (with_reducible repeat (first | apply Kd.R_alloc | apply Kd.R_drewN | apply Kd.R_drew)); exact HO119.out))) (below_size (by repeat (first | (with_reducible first | exact HB.out | apply below_alloc | apply pw_below_drewN | apply below_drew1) | exact HB.out)))); have n2_ := Aside0.mk (below_step (by repeat (first | (with_reducible first | exact HB.out | apply below_alloc | apply pw_below_drewN | apply below_drew1) | exact HB.out)) hb); clear HO119; clear HB; have HO119 := n0_; have HO122 := n1_; have HB := n2_; clear n0_ n1_ n2_; (try clear hb); (try clear hb2); (try clear hk); (try clear hi); (try clear ho0); obtain ⟨Ao9, co9, eo9⟩ := Kd.R_slice HO122.out; subst eo9) | ((with_reducible refine gate_callee (f := 24) rfl ?_); refine goesL_ (some 9) rfl rfl Try.func24 (by kernel_rfl) rfl #[.slice Ao9 t120.length co9] rfl (by (try simp only [List.map_toArray, List.map_cons, List.map_nil]); first | done | rfl | (simp only [List.length_drop, List.length_take]; rfl)) ?_; (with_reducible refine (choice_times.calls k _ _ t120 t123 _ ?side1 ?side2 A4.out).mono ?_); (case side1 => repeat (first | exact (Kd.R_reads' HO122.out).2.2 | (with_reducible refine Kd.C_alloc ?_ _) | (with_reducible refine Kd.C_drewN ?_ _) | (with_reducible refine Kd.C_drew ?_))); (case side2 => exact (Kd.R_reads' HO122.out).2.1); rintro e w' ⟨rfl, ⟨nd, rfl⟩⟩; refine ⟨_, rfl, ?_⟩))
  go_ret
  exact ⟨by first | rfl | (simp [errW_none, errW_some] <;> rfl) | (simp [*, errW_none, errW_some] <;> rfl), by repeat (first | (with_reducible first | exact HB.out | apply below_alloc | apply pw_below_drewN | apply below_drew1) | exact HB.out)⟩

/-! ### slices_Clone_int_int: function 50 -/
def slices_Clone_int_int.f (l0 : List Int) : Option (List Int) := if l0.length < 17592186044416 then some l0 else none
theorem clone_info : (Try.prog.info? 3).map (fun i => (i.zero, i.size, i.bytes)) = some (some (.int .i64 0), 1, 8) := by kernel_rfl
set_option maxHeartbeats 2000000 in
set_option maxRecDepth 100000 in
theorem slices_Clone_int_int.calls (A0 : Option Addr) (c0 : Nat) (l0 : List Int) (r : List Int) (w : World) (hr0 : Kd.C (Kd.int .i64) w A0 l0.length l0) (hc0 : l0.length ≤ c0) (h : slices_Clone_int_int.f l0 = some r) :
    Calls Try.prog 50 #[.slice A0 l0.length c0] w fun e w' => ∃ v0_ : Value, e = .returned v0_ ∧ Kd.R (Kd.int .i64) 3 w' w.heap.size (fun _ => True) v0_ r ∧ Below w.heap.size w w' := by
  unfold slices_Clone_int_int.f at h
  split at h
  · rename_i hlt
    injection h with h
    subst h
    have q24 : ∀ (w : World) (a : Option Addr) (n c n' c' : Nat), (binOp .eql 22 (.slice a n c) (.slice none n' c')).run Try.prog w = .ok (.bool a.isNone) w := fun w a n c n' c' => Lib.run_eql_slice_nil w _ _ a n c n' c' Try.underlying22
    obtain ⟨i0, hi, hz0, hz1, hz2⟩ := info_parts clone_info
    cases A0 with
    | none =>
      have hl : l0 = [] := by
        rcases Nat.eq_zero_or_pos l0.length with h | h
        · exact List.eq_nil_of_length_eq_zero h
        · obtain ⟨ad, e, _⟩ := hr0.2.2 h
          cases e
      subst hl
      clear hr0
      go_enter Try.func50, Try.ntmps50
      go_wp2
      go_ret
      exact ⟨_, rfl, Kd.R_nil _ _ _ _ _, Below.refl _ _⟩
    | some ad =>
      have HC := Aside0.mk hr0
      clear hr0
      go_enter Try.func50, Try.ntmps50
      go_wp2_with (at_builtin; refine wpList_append_own _ rfl _ _ 22 rfl w.heap.size 3 i0 (.int .i64 0) 1 8 Try.underlying22 hi hz0 hz1 hz2 rfl (by decide) _ _ _ rfl (World.ownsRow_made w #[] 0 (Nat.le_refl _) (Nat.zero_le _) rfl) ad l0.length c0 (nums .i64 l0) rfl ?qc1 ?qc2 ?qc3 ?qc4 ?qc5 ?qc6 ?_)
      case qc1 => rw [nums_length, Nat.mul_one]
      case qc2 =>
        intro j u hj
        have hjl : j < l0.length := by
          have := (List.getElem?_eq_some_iff.1 hj).1
          rwa [nums_length] at this
        obtain ⟨ad', e, hcc⟩ := HC.out.2.2 (by omega)
        injection e with e
        subst e
        obtain ⟨cs, _, hK, hcell⟩ := hcc j l0[j] (List.getElem?_eq_getElem hjl)
        have hcs : cs = [.int .i64 l0[j]] := hK
        have h1 := hcell 0 (.int .i64 l0[j]) (by rw [hcs]; rfl)
        have hu : u = .int .i64 l0[j] := by
          unfold nums at hj
          rw [List.getElem?_map, List.getElem?_eq_getElem hjl] at hj
          injection hj with hj
          exact hj.symm
        rw [hu]
        have h2 : w.cell? (ad.add j) = some (.int .i64 l0[j]) := by simpa [show (Kd.int .i64).sz = 1 from rfl] using h1
        exact Lib.cell?_alloc_some _ h2
      case qc3 => intro u hu; obtain ⟨x, _, rfl⟩ := List.mem_map.1 hu; rfl
      case qc4 => unfold maxLen; omega
      case qc5 => omega
      case qc6 => simp
      intro v' w1 hown hgrow hnil
      go_wp2
      go_ret
      refine ⟨v', rfl, ?_, ((Below.refl _ w).alloc (Nat.le_refl _) _).grown hgrow (by simp) (by intro k hk; simp [Value.ownBlock] at hk; omega)⟩
      exact Kd.R_of_own hown (fun _ _ => trivial)
  · cases h


end Go.Proofs.Ytocmifmelgghdaa.PA

/- Functions of the translated program as Lean functions, and what their calls come to: written by this session's own program (wip/xprint.py) over the kit's print. Conditions stand in each theorem. -/
import Derived.Test.YtjehjjpejmdfiaaPAx0
namespace Go.Proofs.Ytjehjjpejmdfiaa.PA
open Go.RowKit Go.Proofs.YtjehjjpejmdfiaaW.PrintWords Go.Proofs.YtjehjjpejmdfiaaW.PrintLast Go.Proofs.YtjehjjpejmdfiaaW.PrintMore
attribute [local go_sem] max2_int min2_int max_two min_two max_three min_three max_four min_four   -- for this text's walks alone
set_option linter.unusedVariables false
set_option linter.unusedSimpArgs false

/-! ### mask_team: function 15 -/
def mask_team.j0 : Nat → Int → Bool → Option (Int)
  | 0, _, _ => none
  | k + 1, x1, x10 => if x10 = true then (some 3) else (if x1 < 1 then (some 5) else (if x1 > 16 then (some 5) else (some 0)))
def mask_team.f (k : Nat) (a0 : Int) (a1 : Int) : Option (Int) := if a0 < 2 then (mask_team.j0 k a1 true) else (mask_team.j0 k a1 (decide (a0 > 1073741824)))
theorem mask_team.mono_l : ∀ k, (∀ y0 y1, LeO (mask_team.j0 k y0 y1) (mask_team.j0 (k + 1) y0 y1))
  | 0 => fun _ _ r h => by simp [mask_team.j0] at h
  | k + 1 => by
    have ih0 := mask_team.mono_l k
    · intro y0 y1
      unfold mask_team.j0
      repeat' first
      | (with_reducible exact ih0 _ _)
      | (with_reducible exact LeO.refl _)
      | (with_reducible exact LeO.none _)
      | (with_reducible refine LeO.ite ?_ ?_)
      | (with_reducible refine LeO.bind ?_ (fun _ => ?_))
      | exact ih0 _ _
      | exact LeO.none _
      | refine LeO.ite ?_ ?_
      | refine LeO.bind ?_ (fun _ => ?_)
theorem mask_team.mono : ∀ a0 a1 k, LeO (mask_team.f k a0 a1) (mask_team.f (k + 1) a0 a1) := by
  intro a0 a1 k
  have ih0 := mask_team.mono_l k
  unfold mask_team.f
  repeat' first
      | (with_reducible exact ih0 _ _)
      | (with_reducible exact LeO.refl _)
      | (with_reducible exact LeO.none _)
      | (with_reducible refine LeO.ite ?_ ?_)
      | (with_reducible refine LeO.bind ?_ (fun _ => ?_))
      | exact ih0 _ _
      | exact LeO.none _
      | refine LeO.ite ?_ ?_
      | refine LeO.bind ?_ (fun _ => ?_)
set_option maxHeartbeats 8000000 in
set_option maxRecDepth 100000 in
theorem mask_team.calls (k : Nat) (a0 : Int) (a1 : Int) (r : Int) (w : World) (h : mask_team.f k a0 a1 = some r) :
    Calls Try.prog 15 #[.int .i64 a0, .int .i64 a1] w fun e w' => e = .returned (.int .i64 r) ∧ Drawn0 w w' := by
  have H : (if a0 < 2 then (mask_team.j0 k a1 true) else (mask_team.j0 k a1 (decide (a0 > 1073741824)))) = some r := h
  clear h
  have HC3 := Aside0.mk H
  clear H
  go_enter Try.func15, Try.ntmps15
  go_upto_region 1 with (fail)
  go_cut [10] (fun v10 wc => ∃ (kq : Nat) (x10_2 : Bool), v10 = .bool x10_2 ∧ Aside0 (mask_team.j0 kq a1 x10_2 = some r) ∧ Aside0 (kq ≤ k) ∧ Drawn0 w wc)
  case first =>
    have H := HC3.out
    clear HC3
    by_cases c4 : a0 < 2
    · rw [if_pos c4] at H
      have c4b0 : decide (a0 < 2) = true := decide_eq_true c4
      clear c4
      (first | rw [c4b0] | (simp only [i64_w, i32_w]; rw [c4b0]) | skip)
      have H' := Aside0.mk H
      clear H
      go_wp2
      go_meet
      case rel => exact ⟨_, (true), (by first | rfl | (simp; done) | (simp [*]; done)), H', ⟨by first | omega | exact Nat.le_refl _⟩, by repeat (first | exact Drawn0.refl _ | apply Drawn0.step)⟩
    · rw [if_neg c4] at H
      have c4b0 : decide (a0 < 2) = false := decide_eq_false c4
      clear c4
      (first | rw [c4b0] | (simp only [i64_w, i32_w]; rw [c4b0]) | skip)
      have H' := Aside0.mk H
      clear H
      go_wp2
      go_meet
      case rel => exact ⟨_, (decide (a0 > 1073741824)), (by first | rfl | (simp; done) | (simp [*]; done)), H', ⟨by first | omega | exact Nat.le_refl _⟩, by repeat (first | exact Drawn0.refl _ | apply Drawn0.step)⟩
  case rest =>
    clear HC3
    try clear c1
    try clear p2
    try clear c4
    try clear c4b0
    obtain ⟨kq, x10_2, rfl, HA, HJ2, ⟨mc2, rfl⟩⟩ := hcut
    cases kq with
    | zero => exact absurd HA.out (by simp [mask_team.j0])
    | succ kj2 =>
      have H := HA.out
      clear HA
      simp only [mask_team.j0] at H
      by_cases c5 : x10_2 = true
      · subst c5
        have H1 : (some 3) = some r := by rw [if_pos rfl] at H; exact H
        clear H
        have H := H1
        clear H1
        obtain rfl := Option.some.inj H
        go_wp2
        go_ret
        exact ⟨by first | rfl | (simp; done) | (simp [*]; done), by repeat (first | exact Drawn0.refl _ | apply Drawn0.step)⟩
      · replace c5 := Bool.eq_false_iff.mpr c5
        subst c5
        have H1 : (if a1 < 1 then (some 5) else (if a1 > 16 then (some 5) else (some 0))) = some r := by rw [if_neg (show ¬ (false = true) by decide)] at H; exact H
        clear H
        have H := H1
        clear H1
        by_cases c6 : a1 < 1
        · rw [if_pos c6] at H
          have c6b0 : decide (a1 < 1) = true := decide_eq_true c6
          clear c6
          obtain rfl := Option.some.inj H
          go_wp2
          go_ret
          exact ⟨by first | rfl | (simp; done) | (simp [*]; done), by repeat (first | exact Drawn0.refl _ | apply Drawn0.step)⟩
        · rw [if_neg c6] at H
          have c6b0 : decide (a1 < 1) = false := decide_eq_false c6
          clear c6
          by_cases c7 : a1 > 16
          · rw [if_pos c7] at H
            have c7b0 : decide (16 < a1) = true := decide_eq_true c7
            clear c7
            obtain rfl := Option.some.inj H
            go_wp2
            go_ret
            exact ⟨by first | rfl | (simp; done) | (simp [*]; done), by repeat (first | exact Drawn0.refl _ | apply Drawn0.step)⟩
          · rw [if_neg c7] at H
            have c7b0 : decide (16 < a1) = false := decide_eq_false c7
            clear c7
            obtain rfl := Option.some.inj H
            go_wp2
            go_ret
            exact ⟨by first | rfl | (simp; done) | (simp [*]; done), by repeat (first | exact Drawn0.refl _ | apply Drawn0.step)⟩

/-! ### mask_ring_holds: function 16 -/
def mask_ring_holds.f (a0 : Int) (a1 : Int) : Option (Bool) := if a1 ≥ 0 then (some (decide (a1 < a0))) else (some false)
set_option maxHeartbeats 8000000 in
set_option maxRecDepth 100000 in
theorem mask_ring_holds.calls (a0 : Int) (a1 : Int) (r : Bool) (w : World) (h : mask_ring_holds.f a0 a1 = some r) :
    Calls Try.prog 16 #[.int .i64 a0, .int .i64 a1] w fun e w' => e = .returned (.bool r) ∧ Drawn0 w w' := by
  have H : (if a1 ≥ 0 then (some (decide (a1 < a0))) else (some false)) = some r := h
  clear h
  by_cases c3 : a1 ≥ 0
  · rw [if_pos c3] at H
    have c3b0 : decide (0 ≤ a1) = true := decide_eq_true c3
    clear c3
    obtain rfl := Option.some.inj H
    go_enter Try.func16, Try.ntmps16
    go_wp2
    go_ret
    exact ⟨by first | rfl | (simp; done) | (simp [*]; done), by repeat (first | exact Drawn0.refl _ | apply Drawn0.step)⟩
  · rw [if_neg c3] at H
    have c3b0 : decide (0 ≤ a1) = false := decide_eq_false c3
    clear c3
    obtain rfl := Option.some.inj H
    go_enter Try.func16, Try.ntmps16
    go_wp2
    go_ret
    exact ⟨by first | rfl | (simp; done) | (simp [*]; done), by repeat (first | exact Drawn0.refl _ | apply Drawn0.step)⟩

/-! ### mask_ring_mod: function 19 -/
def mask_ring_mod.f (a0 : Int) (a1 : Int) : Option (Int) := if a0 = 0 then (none) else (if (Int.tmod a1 a0) < 0 then (some (wrap64 ((Int.tmod a1 a0) + a0))) else (some (Int.tmod a1 a0)))
set_option maxHeartbeats 8000000 in
set_option maxRecDepth 100000 in
theorem mask_ring_mod.calls (a0 : Int) (a1 : Int) (r : Int) (w : World) (h : mask_ring_mod.f a0 a1 = some r) :
    Calls Try.prog 19 #[.int .i64 a0, .int .i64 a1] w fun e w' => e = .returned (.int .i64 r) ∧ Drawn0 w w' := by
  have H : (if a0 = 0 then (none) else (if (Int.tmod a1 a0) < 0 then (some (wrap64 ((Int.tmod a1 a0) + a0))) else (some (Int.tmod a1 a0)))) = some r := h
  clear h
  by_cases c3 : a0 = 0
  · rw [if_pos c3] at H
    exact absurd H (by simp)
  · rw [if_neg c3] at H
    have c3b0 : (a0 == 0) = false := beq_eq_false_iff_ne.mpr c3
    have c3b1 : (a0 != 0) = true := bne_iff_ne.mpr c3
    by_cases c4 : (Int.tmod a1 a0) < 0
    · rw [if_pos c4] at H
      have c4b0 : decide ((Int.tmod a1 a0) < 0) = true := decide_eq_true c4
      clear c4
      obtain rfl := Option.some.inj H
      go_enter Try.func19, Try.ntmps19
      go_wp2
      go_ret
      exact ⟨by first | rfl | (simp; done) | (simp [*]; done), by repeat (first | exact Drawn0.refl _ | apply Drawn0.step)⟩
    · rw [if_neg c4] at H
      have c4b0 : decide ((Int.tmod a1 a0) < 0) = false := decide_eq_false c4
      clear c4
      obtain rfl := Option.some.inj H
      go_enter Try.func19, Try.ntmps19
      go_wp2
      go_ret
      exact ⟨by first | rfl | (simp; done) | (simp [*]; done), by repeat (first | exact Drawn0.refl _ | apply Drawn0.step)⟩

/-! ### mask_Mask: function 11 -/
theorem mask_Mask.blk1 {w : World} {g : Nat} {a : Value} {t : TypeId} (h : w.heap[g]? = some (.cells #[a] t (0, 0))) : w.cell? ⟨g, 0, none⟩ = some a ∧ w.frozen? ⟨g, 0, none⟩ = false ∧ g < w.heap.size :=
  ⟨(blk_cell h 0).trans rfl, blk_frozen h 0, blk_lt h⟩
theorem mask_Mask.blk_q {w w' : World} {g n : Nat} {o : Obj} (h : w.heap[g]? = some o) (hq : w' = w.drewN n) : w'.heap[g]? = some o := by
  subst hq
  rw [(pw_below_drewN (Below.refl w.heap.size w) n).block g (blk_lt h)]
  exact h
theorem mask_Mask.meas (n j : Nat) (v : Int) (h : j < n) (hv : v = ((j + 1 : Nat) : Int)) : n - (intOf (.int .i64 v)).toNat < n - (intOf (.int .i64 (j : Int))).toNat := by
  subst hv
  show n - ((j + 1 : Nat) : Int).toNat < n - ((j : Nat) : Int).toNat
  rw [Int.toNat_natCast, Int.toNat_natCast]
  omega
def mask_Mask.in_ (a0 x : Int) : Bool := decide (0 ≤ x) && decide (x < a0)
def mask_Mask.out (a0 x : Int) : Bool := !(mask_Mask.in_ a0 x)
def mask_Mask.go (me : Int) : List Int → Int → Int → Int
  | [], _, num => num
  | s :: r, k, num => mask_Mask.go me r (k + 1) (if me < k then wrap64 (num + s) else if k < me then wrap64 (num - s) else num)
def mask_Mask.rest (a0 a1 a2 : Int) (l : List Int) : Option (Int × Int) := if a1 < 0 then some (0, 3) else if (l.length : Int) ≤ a1 then some (0, 3) else if mask_Mask.out a0 a2 = true then some (0, 3) else if l.any (mask_Mask.out a0) = true then some (0, 3) else (mask_ring_mod.f a0 (mask_Mask.go a1 l 0 a2)).bind fun v => some (v, 0)
def mask_Mask.f (k : Nat) (a0 a1 a2 : Int) (l : List Int) : Option (Int × Int) := (mask_team.f k a0 (l.length : Int)).bind fun t => if t = 0 then mask_Mask.rest a0 a1 a2 l else some (0, t)
theorem mask_Mask.mono : ∀ a0 a1 a2 l k, LeO (mask_Mask.f k a0 a1 a2 l) (mask_Mask.f (k + 1) a0 a1 a2 l) := by
  intro a0 a1 a2 l k
  unfold mask_Mask.f
  exact LeO.bind (mask_team.mono _ _ _) (fun _ => LeO.refl _)
theorem mask_Mask.holds_f (a0 x : Int) : mask_ring_holds.f a0 x = some (mask_Mask.in_ a0 x) := by
  unfold mask_ring_holds.f mask_Mask.in_
  by_cases h : 0 ≤ x
  · rw [if_pos h, decide_eq_true h]; rfl
  · rw [if_neg h, decide_eq_false h]; rfl
set_option maxHeartbeats 2000000 in
theorem mask_Mask.inner (g : Nat) (a0 x : Int) (w : World) (hg : w.cell? ⟨g, 0, none⟩ = some (.int .i64 a0)) : Calls Try.prog 18 #[.int .i64 x, .pointer (some ⟨g, 0, none⟩)] w fun e w' => e = .returned (.bool (mask_Mask.out a0 x)) ∧ ∃ n, w' = w.drewN n := by
  have hu39 := Try.underlying39
  unfold mask_Mask.out
  have Hh := Aside0.mk (mask_Mask.holds_f a0 x)
  generalize mask_Mask.in_ a0 x = b at Hh ⊢
  go_enter Try.func18, Try.ntmps18
  go_wp2_with (go_at_call 16; (with_reducible refine (mask_ring_holds.calls a0 x b _ Hh.out).mono ?_); rintro e w3 ⟨rfl, n, rfl⟩)
  go_ret
  exact ⟨rfl, n, rfl⟩
set_option maxHeartbeats 2000000 in
theorem mask_Mask.index (g : Nat) (a0 : Int) (A0 : Option Addr) (c0 : Nat) (l0 : List Int) (w : World) (hr0 : Kd.C (Kd.int .i64) w A0 l0.length l0)
    (hf : ∀ x n, Calls Try.prog 18 #[.int .i64 x, .pointer (some ⟨g, 0, none⟩)] (w.drewN n) fun e w' => e = .returned (.bool (mask_Mask.out a0 x)) ∧ ∃ n', w' = w.drewN n') :
    Calls Try.prog 21 #[.slice A0 l0.length c0, .func (.func 18) #[] #[.pointer (some ⟨g, 0, none⟩)]] w fun e w' => (∃ r : Int, e = .returned (.int .i64 r) ∧ (decide (0 ≤ r) = l0.any (mask_Mask.out a0))) ∧ ∃ n', w' = w.drewN n' := by
  obtain ⟨_, hbig, hr⟩ := hr0
  have Hr := Aside0.mk hr
  have Hf := Aside0.mk hf
  clear hr hf
  go_enter Try.func21, Try.ntmps21
  go_wp2
  go_loopw [8] (fun i wr => ∃ k n : Nat, k ≤ l0.length ∧ i = .int .i64 k ∧ wr = w.drewN n ∧ Aside0 ((l0.take k).any (mask_Mask.out a0) = false)) (fun i _ => l0.length - (intOf i).toNat)
  case atStart => exact ⟨0, 0, Nat.zero_le _, rfl, rfl, ⟨rfl⟩⟩
  case round =>
    obtain ⟨k, n, hk, rfl, rfl, Hany⟩ := hrel
    by_cases hlt : k < l0.length
    · obtain ⟨ad, hA, hc⟩ := Hr.out (by omega)
      subst hA
      have hg : l0[k]? = some l0[k] := List.getElem?_eq_getElem hlt
      obtain ⟨c, _, hcs, hcc⟩ := hc k _ hg
      have hcs' : c = [.int .i64 l0[k]] := hcs
      have hcell0 := hcc 0 (.int .i64 l0[k]) (by rw [hcs']; rfl)
      have hcell : (w.drewN n).cell? (ad.add k) = some (.int .i64 l0[k]) := by simpa [show (Kd.int .i64).sz = 1 from rfl] using hcell0
      have Hx := Aside0.mk (List.take_succ_eq_append_getElem hlt)
      have Hmem := Aside0.mk (List.getElem_mem hlt)
      generalize l0[k] = x at hcell Hx Hmem
      clear hcell0 hcs' hcs hcc hg hc
      cases hp : (mask_Mask.out a0) x with
      | false =>
        have Hp := Aside0.mk hp
        clear hp
        have Hf1 := Aside0.mk ((Hf.out x n).mono (R' := fun e w' => e = .returned (.bool false) ∧ ∃ n', w' = w.drewN n') (fun e w' h => by rw [Hp.out] at h; exact h))
        go_wp2_with (first | (go_at_call 18; (with_reducible refine Hf1.out.mono ?_); rintro e w3 ⟨rfl, n', rfl⟩))
        go_roundw
        case rel => exact ⟨k + 1, n', by omega, by go_num, rfl, ⟨by rw [Hx.out, List.any_append, Hany.out]; simp [Hp.out]⟩⟩
        case measure => simp [intOf]; omega
      | true =>
        have Hp := Aside0.mk hp
        clear hp
        have Hf1 := Aside0.mk ((Hf.out x n).mono (R' := fun e w' => e = .returned (.bool true) ∧ ∃ n', w' = w.drewN n') (fun e w' h => by rw [Hp.out] at h; exact h))
        go_wp2_with (first | (go_at_call 18; (with_reducible refine Hf1.out.mono ?_); rintro e w3 ⟨rfl, n', rfl⟩))
        go_ret
        exact ⟨⟨_, rfl, by rw [decide_eq_true (by omega)]; exact (List.any_eq_true.2 ⟨x, Hmem.out, Hp.out⟩).symm⟩, n', rfl⟩
    · go_wp2
      go_ret
      exact ⟨⟨_, rfl, by have h : k = l0.length := (by omega); have h2 := Hany.out; rw [h, List.take_length] at h2; rw [h2]; rfl⟩, n, rfl⟩
set_option maxHeartbeats 2000000 in
theorem mask_Mask.contains (g : Nat) (a0 : Int) (A0 : Option Addr) (c0 : Nat) (l0 : List Int) (w : World) (hr0 : Kd.C (Kd.int .i64) w A0 l0.length l0)
    (hf : ∀ x n, Calls Try.prog 18 #[.int .i64 x, .pointer (some ⟨g, 0, none⟩)] (w.drewN n) fun e w' => e = .returned (.bool (mask_Mask.out a0 x)) ∧ ∃ n', w' = w.drewN n') :
    Calls Try.prog 17 #[.slice A0 l0.length c0, .func (.func 18) #[] #[.pointer (some ⟨g, 0, none⟩)]] w fun e w' => e = .returned (.bool (l0.any (mask_Mask.out a0))) ∧ ∃ n', w' = w.drewN n' := by
  have HI := Aside0.mk (mask_Mask.index g a0 A0 c0 l0 w hr0 hf)
  clear hr0 hf
  go_enter Try.func17, Try.ntmps17
  go_wp2_with (first | (go_at_call 21; (with_reducible refine HI.out.mono ?_); rintro e w3 ⟨⟨r, rfl, hr⟩, n', rfl⟩; have Hr := Aside0.mk hr; clear hr))
  go_ret
  exact ⟨by rw [← Hr.out]; rfl, n', rfl⟩
theorem mask_Mask.has (g : Nat) (a0 : Int) (A0 : Option Addr) (c0 : Nat) (l0 : List Int) (w : World) (b : Bool) (hr0 : Kd.C (Kd.int .i64) w A0 l0.length l0) (hg : w.heap[g]? = some (.cells #[.int .i64 a0] 39 (0, 0))) (hx : l0.any (mask_Mask.out a0) = b) :
    Calls Try.prog 17 #[.slice A0 l0.length c0, .func (.func 18) #[] #[.pointer (some ⟨g, 0, none⟩)]] w fun e w' => e = .returned (.bool b) ∧ ∃ n', w' = w.drewN n' := by
  subst hx
  refine mask_Mask.contains g a0 A0 c0 l0 w hr0 (fun x n => (mask_Mask.inner g a0 x (w.drewN n) ((mask_Mask.blk1 (mask_Mask.blk_q hg rfl)).1)).mono ?_)
  rintro e w' ⟨rfl, n', rfl⟩
  exact ⟨rfl, n + n', by rw [World.drewN_drewN]⟩
set_option maxHeartbeats 4000000 in
theorem mask_Mask.wrong (k : Nat) (a0 a1 a2 : Int) (A0 : Option Addr) (c0 : Nat) (l0 : List Int) (t : Int) (ht : mask_team.f k a0 (l0.length : Int) = some t) (h0 : (t != 0) = true) (w : World) (hr0 : Kd.C (Kd.int .i64) w A0 l0.length l0) :
    Calls Try.prog 11 #[.int .i64 a0, .int .i64 a1, .int .i64 a2, .slice A0 l0.length c0] w fun e w' => e = .returned (.tuple #[.int .i64 0, .int .i64 t]) ∧ Below w.heap.size w w' := by
  have hu39 := Try.underlying39
  have Ht := Aside0.mk ht
  clear ht hr0
  go_enter Try.func11, Try.ntmps11
  go_wp2_with (go_at_call 15; (with_reducible refine (mask_team.calls k a0 _ t _ Ht.out).mono ?_); rintro e w3 ⟨rfl, n1, rfl⟩; clear Ht)
  exact bodyPost_ret (v := .tuple #[.int .i64 0, .int .i64 t]) (by simp [results, Try.results11, go_sem, *]) rfl ⟨rfl, pw_below_drewN (Below.refl _ _) n1⟩
set_option maxHeartbeats 4000000 in
theorem mask_Mask.w1 (k : Nat) (a0 a1 a2 : Int) (A0 : Option Addr) (c0 : Nat) (l0 : List Int) (ht : mask_team.f k a0 (l0.length : Int) = some 0) (h0 : a1 < 0) (w : World) (hr0 : Kd.C (Kd.int .i64) w A0 l0.length l0) :
    Calls Try.prog 11 #[.int .i64 a0, .int .i64 a1, .int .i64 a2, .slice A0 l0.length c0] w fun e w' => e = .returned (.tuple #[.int .i64 0, .int .i64 3]) ∧ Below w.heap.size w w' := by
  have hu39 := Try.underlying39
  have Ht := Aside0.mk ht
  clear ht hr0
  have h0' : decide (a1 < 0) = true := decide_eq_true h0
  go_enter Try.func11, Try.ntmps11
  go_wp2_with ((go_at_call 15; (with_reducible refine (mask_team.calls k a0 _ 0 _ Ht.out).mono ?_); rintro e w3 ⟨rfl, n1, hq⟩; have HB := Aside0.mk (show Below w.heap.size w w3 by subst hq; exact pw_below_drewN (Below.refl _ _) n1); clear Ht hq; have K := Aside0.mk (blk_new w3 (.cells #[.int .i64 a0] 39))))
  exact bodyPost_ret (v := .tuple #[.int .i64 0, .int .i64 3]) (by simp [results, Try.results11, go_sem, *]) rfl ⟨rfl, HB.out.alloc HB.out.size _⟩
set_option maxHeartbeats 4000000 in
theorem mask_Mask.w2 (k : Nat) (a0 a1 a2 : Int) (A0 : Option Addr) (c0 : Nat) (l0 : List Int) (ht : mask_team.f k a0 (l0.length : Int) = some 0) (h0 : 0 ≤ a1) (h1 : (l0.length : Int) ≤ a1) (w : World) (hr0 : Kd.C (Kd.int .i64) w A0 l0.length l0) :
    Calls Try.prog 11 #[.int .i64 a0, .int .i64 a1, .int .i64 a2, .slice A0 l0.length c0] w fun e w' => e = .returned (.tuple #[.int .i64 0, .int .i64 3]) ∧ Below w.heap.size w w' := by
  have hu39 := Try.underlying39
  have Ht := Aside0.mk ht
  clear ht hr0
  have h0' : decide (a1 < 0) = false := decide_eq_false (by omega)
  have h1' : decide ((l0.length : Int) ≤ a1) = true := decide_eq_true h1
  go_enter Try.func11, Try.ntmps11
  go_wp2_with ((go_at_call 15; (with_reducible refine (mask_team.calls k a0 _ 0 _ Ht.out).mono ?_); rintro e w3 ⟨rfl, n1, hq⟩; have HB := Aside0.mk (show Below w.heap.size w w3 by subst hq; exact pw_below_drewN (Below.refl _ _) n1); clear Ht hq; have K := Aside0.mk (blk_new w3 (.cells #[.int .i64 a0] 39))))
  exact bodyPost_ret (v := .tuple #[.int .i64 0, .int .i64 3]) (by simp [results, Try.results11, go_sem, *]) rfl ⟨rfl, HB.out.alloc HB.out.size _⟩
set_option maxHeartbeats 4000000 in
theorem mask_Mask.w3 (k : Nat) (a0 a1 a2 : Int) (A0 : Option Addr) (c0 : Nat) (l0 : List Int) (ht : mask_team.f k a0 (l0.length : Int) = some 0) (h0 : 0 ≤ a1) (h1 : a1 < (l0.length : Int)) (h2 : mask_Mask.in_ a0 a2 = false) (w : World) (hr0 : Kd.C (Kd.int .i64) w A0 l0.length l0) :
    Calls Try.prog 11 #[.int .i64 a0, .int .i64 a1, .int .i64 a2, .slice A0 l0.length c0] w fun e w' => e = .returned (.tuple #[.int .i64 0, .int .i64 3]) ∧ Below w.heap.size w w' := by
  have hu39 := Try.underlying39
  have Ht := Aside0.mk ht
  have Hh := Aside0.mk (show mask_ring_holds.f a0 a2 = some false by rw [mask_Mask.holds_f, h2])
  clear ht hr0 h2
  have h0' : decide (a1 < 0) = false := decide_eq_false (by omega)
  have h1' : decide ((l0.length : Int) ≤ a1) = false := decide_eq_false (by omega)
  go_enter Try.func11, Try.ntmps11
  go_wp2_with (first | (go_at_call 15; (with_reducible refine (mask_team.calls k a0 _ 0 _ Ht.out).mono ?_); rintro e w3 ⟨rfl, n1, hq⟩; have HB := Aside0.mk (show Below w.heap.size w w3 by subst hq; exact pw_below_drewN (Below.refl _ _) n1); clear Ht hq; have K := Aside0.mk (blk_new w3 (.cells #[.int .i64 a0] 39))) | (go_at_call 16; (with_reducible refine (mask_ring_holds.calls a0 a2 false _ Hh.out).mono ?_); rintro e w4 ⟨rfl, n2, hq⟩; have HB := Aside0.mk (show Below w.heap.size w w4 by subst hq; exact pw_below_drewN (HB.out.alloc HB.out.size _) n2); replace K := Aside0.mk (mask_Mask.blk_q K.out hq); clear Hh hq; have k1 := mask_Mask.blk1 K.out; obtain ⟨k2, k3, k4⟩ := k1))
  exact bodyPost_ret (v := .tuple #[.int .i64 0, .int .i64 3]) (by simp [results, Try.results11, go_sem, *]) rfl ⟨rfl, HB.out⟩
set_option maxHeartbeats 4000000 in
theorem mask_Mask.w4 (k : Nat) (a0 a1 a2 : Int) (A0 : Option Addr) (c0 : Nat) (l0 : List Int) (ht : mask_team.f k a0 (l0.length : Int) = some 0) (h0 : 0 ≤ a1) (h1 : a1 < (l0.length : Int)) (h2 : mask_Mask.in_ a0 a2 = true) (hx : l0.any (mask_Mask.out a0) = true) (w : World) (hr0 : Kd.C (Kd.int .i64) w A0 l0.length l0) :
    Calls Try.prog 11 #[.int .i64 a0, .int .i64 a1, .int .i64 a2, .slice A0 l0.length c0] w fun e w' => e = .returned (.tuple #[.int .i64 0, .int .i64 3]) ∧ Below w.heap.size w w' := by
  have hu39 := Try.underlying39
  have Ht := Aside0.mk ht
  have Hh := Aside0.mk (show mask_ring_holds.f a0 a2 = some true by rw [mask_Mask.holds_f, h2])
  have Hx := Aside0.mk hx
  have Hr := Aside0.mk hr0
  clear ht hr0 h2 hx
  have h0' : decide (a1 < 0) = false := decide_eq_false (by omega)
  have h1' : decide ((l0.length : Int) ≤ a1) = false := decide_eq_false (by omega)
  have hmf : ∀ (fn : Fn) (first cap : Array Value) (w : World), (Instr.makeFunc fn first cap).run Try.prog w = .ok (.func fn first cap) w := fun _ _ _ _ => rfl
  go_enter Try.func11, Try.ntmps11
  go_wp2_with (first | (go_at_call 15; (with_reducible refine (mask_team.calls k a0 _ 0 _ Ht.out).mono ?_); rintro e w3 ⟨rfl, n1, hq⟩; have HB := Aside0.mk (show Below w.heap.size w w3 by subst hq; exact pw_below_drewN (Below.refl _ _) n1); clear Ht hq; have K := Aside0.mk (blk_new w3 (.cells #[.int .i64 a0] 39))) | (go_at_call 16; (with_reducible refine (mask_ring_holds.calls a0 a2 true _ Hh.out).mono ?_); rintro e w4 ⟨rfl, n2, hq⟩; have HB := Aside0.mk (show Below w.heap.size w w4 by subst hq; exact pw_below_drewN (HB.out.alloc HB.out.size _) n2); replace K := Aside0.mk (mask_Mask.blk_q K.out hq); clear Hh hq; have k1 := mask_Mask.blk1 K.out; obtain ⟨k2, k3, k4⟩ := k1) | (go_at_call 17; (with_reducible refine (mask_Mask.has _ a0 A0 c0 l0 _ true (Kd.C_below Hr.out HB.out) K.out Hx.out).mono ?_); rintro e w5 ⟨rfl, n3, hq⟩; have HB := Aside0.mk (show Below w.heap.size w w5 by subst hq; exact pw_below_drewN HB.out n3); replace K := Aside0.mk (mask_Mask.blk_q K.out hq); clear Hx hq; obtain ⟨k5, k6, k7⟩ := mask_Mask.blk1 K.out))
  exact bodyPost_ret (v := .tuple #[.int .i64 0, .int .i64 3]) (by simp [results, Try.results11, go_sem, *]) rfl ⟨rfl, HB.out⟩
set_option maxHeartbeats 4000000 in
theorem mask_Mask.ok (k : Nat) (a0 a1 a2 : Int) (A0 : Option Addr) (c0 : Nat) (l0 : List Int) (v : Int) (ht : mask_team.f k a0 (l0.length : Int) = some 0) (h0 : 0 ≤ a1) (h1 : a1 < (l0.length : Int)) (h2 : mask_Mask.in_ a0 a2 = true) (hx : l0.any (mask_Mask.out a0) = false) (hm : mask_ring_mod.f a0 (mask_Mask.go a1 l0 0 a2) = some v) (w : World) (hr0 : Kd.C (Kd.int .i64) w A0 l0.length l0) :
    Calls Try.prog 11 #[.int .i64 a0, .int .i64 a1, .int .i64 a2, .slice A0 l0.length c0] w fun e w' => e = .returned (.tuple #[.int .i64 v, .int .i64 0]) ∧ Below w.heap.size w w' := by
  have hu39 := Try.underlying39
  have Ht := Aside0.mk ht
  have Hh := Aside0.mk (show mask_ring_holds.f a0 a2 = some true by rw [mask_Mask.holds_f, h2])
  have Hx := Aside0.mk hx
  have Hr := Aside0.mk hr0
  have Hm := Aside0.mk hm
  have Hlen := Aside0.mk (Kd.C_max hr0)
  clear ht hr0 h2 hx hm
  have h0' : decide (a1 < 0) = false := decide_eq_false (by omega)
  have h1' : decide ((l0.length : Int) ≤ a1) = false := decide_eq_false (by omega)
  have hmf : ∀ (fn : Fn) (first cap : Array Value) (w : World), (Instr.makeFunc fn first cap).run Try.prog w = .ok (.func fn first cap) w := fun _ _ _ _ => rfl
  go_enter Try.func11, Try.ntmps11
  go_wp2_with (first | (go_at_call 15; (with_reducible refine (mask_team.calls k a0 _ 0 _ Ht.out).mono ?_); rintro e w3 ⟨rfl, n1, hq⟩; have HB := Aside0.mk (show Below w.heap.size w w3 by subst hq; exact pw_below_drewN (Below.refl _ _) n1); clear Ht hq; have K := Aside0.mk (blk_new w3 (.cells #[.int .i64 a0] 39))) | (go_at_call 16; (with_reducible refine (mask_ring_holds.calls a0 a2 true _ Hh.out).mono ?_); rintro e w4 ⟨rfl, n2, hq⟩; have HB := Aside0.mk (show Below w.heap.size w w4 by subst hq; exact pw_below_drewN (HB.out.alloc HB.out.size _) n2); replace K := Aside0.mk (mask_Mask.blk_q K.out hq); clear Hh hq; have k1 := mask_Mask.blk1 K.out; obtain ⟨k2, k3, k4⟩ := k1) | (go_at_call 17; (with_reducible refine (mask_Mask.has _ a0 A0 c0 l0 _ false (Kd.C_below Hr.out HB.out) K.out Hx.out).mono ?_); rintro e w5 ⟨rfl, n3, hq⟩; have HB := Aside0.mk (show Below w.heap.size w w5 by subst hq; exact pw_below_drewN HB.out n3); replace K := Aside0.mk (mask_Mask.blk_q K.out hq); clear Hx hq; obtain ⟨k5, k6, k7⟩ := mask_Mask.blk1 K.out))
  have Hr5 := Aside0.mk (Kd.C_below Hr.out HB.out)
  go_loop [43, 2] (fun i m => ∃ (j : Nat) (nm : Int), j ≤ l0.length ∧ i = .int .i64 j ∧ m = .int .i64 nm ∧ Aside0 (mask_Mask.go a1 (l0.drop j) (j : Int) nm = mask_Mask.go a1 l0 0 a2)) (fun i m => l0.length - (intOf i).toNat)
  case atStart => exact ⟨0, a2, Nat.zero_le _, rfl, rfl, ⟨rfl⟩⟩
  case round =>
    obtain ⟨j, nm, hj, rfl, rfl, Hgo⟩ := hrel
    by_cases hlt : j < l0.length
    · obtain ⟨ad, hA, hc⟩ := Hr5.out.2.2 (by omega)
      subst hA
      have hg : l0[j]? = some l0[j] := List.getElem?_eq_getElem hlt
      obtain ⟨c, _, hcs, hcc⟩ := hc j _ hg
      have hcs' : c = [.int .i64 l0[j]] := hcs
      have hcell0 := hcc 0 (.int .i64 l0[j]) (by rw [hcs']; rfl)
      have hcell : w5.cell? (ad.add j) = some (.int .i64 l0[j]) := by simpa [show (Kd.int .i64).sz = 1 from rfl] using hcell0
      have Hx := Aside0.mk (List.drop_eq_getElem_cons hlt)
      generalize l0[j] = x at hcell Hx
      clear hcell0 hcs' hcs hcc hg hc
      have Hw := Aside0.mk (show wrap64 ((j : Int) + 1) = ((j + 1 : Nat) : Int) by have := Hlen.out; unfold wrap64; omega)
      by_cases hg1 : a1 < (j : Int)
      · have d1 : decide (a1 < (j : Int)) = true := decide_eq_true hg1
        have Hn := Aside0.mk (show mask_Mask.go a1 (l0.drop (j + 1)) ((j + 1 : Nat) : Int) (wrap64 (nm + x)) = mask_Mask.go a1 l0 0 a2 by rw [show ((j + 1 : Nat) : Int) = (j : Int) + 1 by omega, ← Hgo.out, Hx.out, mask_Mask.go, if_pos hg1])
        go_wp2
        go_round
        case rel => exact ⟨j + 1, _, by omega, congrArg (Value.int .i64) Hw.out, rfl, Hn⟩
        case measure => exact mask_Mask.meas l0.length j _ hlt Hw.out
      · have d1 : decide (a1 < (j : Int)) = false := decide_eq_false hg1
        by_cases hg2 : (j : Int) < a1
        · have d2 : decide ((j : Int) < a1) = true := decide_eq_true hg2
          have Hn := Aside0.mk (show mask_Mask.go a1 (l0.drop (j + 1)) ((j + 1 : Nat) : Int) (wrap64 (nm - x)) = mask_Mask.go a1 l0 0 a2 by rw [show ((j + 1 : Nat) : Int) = (j : Int) + 1 by omega, ← Hgo.out, Hx.out, mask_Mask.go, if_neg hg1, if_pos hg2])
          go_wp2
          go_round
          case rel => exact ⟨j + 1, _, by omega, congrArg (Value.int .i64) Hw.out, rfl, Hn⟩
          case measure => exact mask_Mask.meas l0.length j _ hlt Hw.out
        · have d2 : decide ((j : Int) < a1) = false := decide_eq_false hg2
          have Hn := Aside0.mk (show mask_Mask.go a1 (l0.drop (j + 1)) ((j + 1 : Nat) : Int) nm = mask_Mask.go a1 l0 0 a2 by rw [show ((j + 1 : Nat) : Int) = (j : Int) + 1 by omega, ← Hgo.out, Hx.out, mask_Mask.go, if_neg hg1, if_neg hg2])
          go_wp2
          go_round
          case rel => exact ⟨j + 1, _, by omega, congrArg (Value.int .i64) Hw.out, rfl, Hn⟩
          case measure => exact mask_Mask.meas l0.length j _ hlt Hw.out
    · have he : j = l0.length := by omega
      replace Hm := Aside0.mk (show mask_ring_mod.f a0 nm = some v by have h := Hgo.out; rw [he, List.drop_length] at h; rw [show nm = mask_Mask.go a1 l0 0 a2 from h]; exact Hm.out)
      go_wp2_with (first | (go_at_call 19; (with_reducible refine (mask_ring_mod.calls a0 _ v _ Hm.out).mono ?_); rintro e w6 ⟨rfl, n4, hq⟩; have HB := Aside0.mk (show Below w.heap.size w w6 by subst hq; exact pw_below_drewN HB.out n4); clear Hm hq))
      exact bodyPost_ret (v := .tuple #[.int .i64 v, .int .i64 0]) (by simp [results, Try.results11, go_sem, *]) rfl ⟨rfl, HB.out⟩
theorem mask_Mask.calls (k : Nat) (a0 a1 a2 : Int) (A0 : Option Addr) (c0 : Nat) (l0 : List Int) (r1 r2 : Int) (w : World) (hr0 : Kd.C (Kd.int .i64) w A0 l0.length l0) (hc0 : l0.length ≤ c0) (h : mask_Mask.f k a0 a1 a2 l0 = some (r1, r2)) :
    Calls Try.prog 11 #[.int .i64 a0, .int .i64 a1, .int .i64 a2, .slice A0 l0.length c0] w fun e w' => e = .returned (.tuple #[.int .i64 r1, .int .i64 r2]) ∧ Below w.heap.size w w' := by
  unfold mask_Mask.f at h
  obtain ⟨t, ht, h⟩ := Option.bind_eq_some_iff.mp h
  by_cases h0 : t = 0
  · subst h0
    rw [if_pos rfl] at h
    unfold mask_Mask.rest at h
    by_cases h1 : a1 < 0
    · rw [if_pos h1] at h
      simp only [Option.some.injEq, Prod.mk.injEq] at h
      obtain ⟨rfl, rfl⟩ := h
      exact mask_Mask.w1 k a0 a1 a2 A0 c0 l0 ht h1 w hr0
    · rw [if_neg h1] at h
      by_cases h2 : (l0.length : Int) ≤ a1
      · rw [if_pos h2] at h
        simp only [Option.some.injEq, Prod.mk.injEq] at h
        obtain ⟨rfl, rfl⟩ := h
        exact mask_Mask.w2 k a0 a1 a2 A0 c0 l0 ht (by omega) h2 w hr0
      · rw [if_neg h2] at h
        cases hi : mask_Mask.in_ a0 a2 with
        | false =>
          rw [if_pos (show mask_Mask.out a0 a2 = true by rw [mask_Mask.out, hi]; rfl)] at h
          simp only [Option.some.injEq, Prod.mk.injEq] at h
          obtain ⟨rfl, rfl⟩ := h
          exact mask_Mask.w3 k a0 a1 a2 A0 c0 l0 ht (by omega) (by omega) hi w hr0
        | true =>
          rw [if_neg (show ¬ mask_Mask.out a0 a2 = true by rw [mask_Mask.out, hi]; decide)] at h
          cases hx : l0.any (mask_Mask.out a0) with
          | true =>
            rw [if_pos hx] at h
            simp only [Option.some.injEq, Prod.mk.injEq] at h
            obtain ⟨rfl, rfl⟩ := h
            exact mask_Mask.w4 k a0 a1 a2 A0 c0 l0 ht (by omega) (by omega) hi hx w hr0
          | false =>
            rw [if_neg (by rw [hx]; decide)] at h
            obtain ⟨v, hm, h⟩ := Option.bind_eq_some_iff.mp h
            simp only [Option.some.injEq, Prod.mk.injEq] at h
            obtain ⟨rfl, rfl⟩ := h
            exact mask_Mask.ok k a0 a1 a2 A0 c0 l0 v ht (by omega) (by omega) hi hx hm w hr0
  · rw [if_neg h0] at h
    simp only [Option.some.injEq, Prod.mk.injEq] at h
    obtain ⟨rfl, rfl⟩ := h
    exact mask_Mask.wrong k a0 a1 a2 A0 c0 l0 t ht (bne_iff_ne.2 h0) w hr0


/-! ### hushlaw12_alive: function 6 -/
def hushlaw12_alive.f (k : Nat)  : Option (Bool) := (mask_Mask.f k 7 0 5 (([0] : List Int))).bind fun bt104 => (if bt104.2 = 0 then (some (bt104.1 == 5)) else (some false))
theorem hushlaw12_alive.mono : ∀ k, LeO (hushlaw12_alive.f k ) (hushlaw12_alive.f (k + 1) ) := by
  intro  k
  unfold hushlaw12_alive.f
  repeat' first
      | (with_reducible exact mask_Mask.mono _ _ _ _ _)
      | (with_reducible exact LeO.refl _)
      | (with_reducible exact LeO.none _)
      | (with_reducible refine LeO.ite ?_ ?_)
      | (with_reducible refine LeO.bind ?_ (fun _ => ?_))
      | exact mask_Mask.mono _ _ _ _ _
      | exact LeO.none _
      | refine LeO.ite ?_ ?_
      | refine LeO.bind ?_ (fun _ => ?_)
set_option maxHeartbeats 8000000 in
set_option maxRecDepth 100000 in
theorem hushlaw12_alive.calls (k : Nat)  (r : Bool) (w : World) (h : hushlaw12_alive.f k  = some r) :
    Calls Try.prog 6 #[] w fun e w' => e = .returned (.bool r) ∧ Below w.heap.size w w' := by
  have HB := Aside0.mk (Below.refl w.heap.size w)
  have H : ((mask_Mask.f k 7 0 5 (([0] : List Int))).bind fun bt104 => (if bt104.2 = 0 then (some (bt104.1 == 5)) else (some false))) = some r := h
  clear h
  obtain ⟨y101, hy101⟩ : ∃ y_ : List Int, y_ = (([0] : List Int)) := ⟨_, rfl⟩
  replace H : ((mask_Mask.f k 7 0 5 y101).bind fun bt104 => (if bt104.2 = 0 then (some (bt104.1 == 5)) else (some false))) = some r := by first | (rw [hy101]; with_reducible exact H) | (have H2_ := (Option.bind_some _ _).symm.trans H; rw [hy101]; with_reducible exact H2_) | (have H2_ := (Option.bind_some _ _).symm.trans H; with_reducible exact H2_) | with_reducible exact H | (rw [hy101]; exact H) | exact H
  have Ny101 := Aside0.mk hy101
  clear hy101
  replace H := Option.bind_eq_some_iff.mp H
  obtain ⟨⟨t104, t105⟩, A10, H⟩ := H
  replace H : (if t105 = 0 then (some (t104 == 5)) else (some false)) = some r := H
  have A1 := Aside0.mk A10
  clear A10
  by_cases c2 : t105 = 0
  · rw [if_pos c2] at H
    have c2b0 : (t105 == 0) = true := beq_iff_eq.mpr c2
    have c2b1 : (t105 != 0) = false := bne_eq_false_iff_eq.mpr c2
    clear c2
    obtain rfl := Option.some.inj H
    go_enter Try.func6, Try.ntmps6
    go_wp2_with (first | ((with_reducible refine gate_dst (N := 4) rfl ?_); refine Kd.R_lit (Kd.int .i64) _ 3 ?hg (N := 4) ?hd (xs := ([0] : List Int)) (inner := [.int .i64 0]) (ok := fun _ => True) (okp := fun _ => True) ?hr ?hp (fun _ hk => hk) trivial (Below.refl _ _) (Nat.le_refl _) (by simp) ?_; (case hd => rfl); (case hg => rfl); (case hr => first | (go_simp; done) | (go_simp; rfl)); (case hp => exact (Reps.one (show Kd.M (Kd.int .i64) _ _ _ 0 [.int .i64 0] from rfl) (Reps.none _ _))); intro v102 w3 ho4 hb hg_ hnew_; clear hg_ hnew_; (first | rw [← Ny101.out] at ho4 | (simp only [Int.reduceToNat] at ho4; rw [← Ny101.out] at ho4)); have n0_ := Aside0.mk (Kd.R_lower ho4 (below_size (by repeat (first | (with_reducible first | exact HB.out | apply below_alloc | apply pw_below_drewN | apply below_drew1) | exact HB.out)))); have n1_ := Aside0.mk (below_step (by repeat (first | (with_reducible first | exact HB.out | apply below_alloc | apply pw_below_drewN | apply below_drew1) | exact HB.out)) hb); clear HB; have HO103 := n0_; have HB := n1_; clear n0_ n1_; clear hb ho4; obtain ⟨Ao5, co5, eo5⟩ := Kd.R_slice HO103.out; subst eo5) | ((with_reducible refine gate_callee (f := 11) rfl ?_); refine goesL_ (some 5) rfl rfl Try.func11 (by kernel_rfl) rfl #[.int .i64 7, .int .i64 0, .int .i64 5, .slice Ao5 y101.length co5] rfl (by (try simp only [List.map_toArray, List.map_cons, List.map_nil]); first | done | rfl | (simp only [List.length_drop, List.length_take]; rfl)) ?_; (with_reducible refine (mask_Mask.calls k 7 0 5 _ _ y101 t104 t105 _ ?side1 ?side2 A1.out).mono ?_); (case side1 => repeat (first | exact (Kd.R_reads' HO103.out).2.2 | (with_reducible refine Kd.C_alloc ?_ _) | (with_reducible refine Kd.C_drewN ?_ _) | (with_reducible refine Kd.C_drew ?_))); (case side2 => exact (Kd.R_reads' HO103.out).2.1); rintro e w6 ⟨rfl, hb⟩; refine ⟨_, rfl, ?_⟩; have n0_ := Aside0.mk (Kd.R_below (by (with_reducible repeat (first | apply Kd.R_alloc | apply Kd.R_drewN | apply Kd.R_drew)); exact HO103.out) hb); have n1_ := Aside0.mk (below_step (by repeat (first | (with_reducible first | exact HB.out | apply below_alloc | apply pw_below_drewN | apply below_drew1) | exact HB.out)) hb); clear HO103; clear HB; have HO103 := n0_; have HB := n1_; clear n0_ n1_; (try clear hb); (try clear hb2); (try clear hk); (try clear hi)))
    go_ret
    exact ⟨by first | rfl | (simp [errW_none, errW_some] <;> rfl) | (simp [*, errW_none, errW_some] <;> rfl), by repeat (first | (with_reducible first | exact HB.out | apply below_alloc | apply pw_below_drewN | apply below_drew1) | exact HB.out)⟩
  · rw [if_neg c2] at H
    have c2b0 : (t105 == 0) = false := beq_eq_false_iff_ne.mpr c2
    have c2b1 : (t105 != 0) = true := bne_iff_ne.mpr c2
    obtain rfl := Option.some.inj H
    go_enter Try.func6, Try.ntmps6
    go_wp2_with (first | ((with_reducible refine gate_dst (N := 4) rfl ?_); refine Kd.R_lit (Kd.int .i64) _ 3 ?hg (N := 4) ?hd (xs := ([0] : List Int)) (inner := [.int .i64 0]) (ok := fun _ => True) (okp := fun _ => True) ?hr ?hp (fun _ hk => hk) trivial (Below.refl _ _) (Nat.le_refl _) (by simp) ?_; (case hd => rfl); (case hg => rfl); (case hr => first | (go_simp; done) | (go_simp; rfl)); (case hp => exact (Reps.one (show Kd.M (Kd.int .i64) _ _ _ 0 [.int .i64 0] from rfl) (Reps.none _ _))); intro v102 w7 ho8 hb hg_ hnew_; clear hg_ hnew_; (first | rw [← Ny101.out] at ho8 | (simp only [Int.reduceToNat] at ho8; rw [← Ny101.out] at ho8)); have n0_ := Aside0.mk (Kd.R_lower ho8 (below_size (by repeat (first | (with_reducible first | exact HB.out | apply below_alloc | apply pw_below_drewN | apply below_drew1) | exact HB.out)))); have n1_ := Aside0.mk (below_step (by repeat (first | (with_reducible first | exact HB.out | apply below_alloc | apply pw_below_drewN | apply below_drew1) | exact HB.out)) hb); clear HB; have HO103 := n0_; have HB := n1_; clear n0_ n1_; clear hb ho8; obtain ⟨Ao9, co9, eo9⟩ := Kd.R_slice HO103.out; subst eo9) | ((with_reducible refine gate_callee (f := 11) rfl ?_); refine goesL_ (some 5) rfl rfl Try.func11 (by kernel_rfl) rfl #[.int .i64 7, .int .i64 0, .int .i64 5, .slice Ao9 y101.length co9] rfl (by (try simp only [List.map_toArray, List.map_cons, List.map_nil]); first | done | rfl | (simp only [List.length_drop, List.length_take]; rfl)) ?_; (with_reducible refine (mask_Mask.calls k 7 0 5 _ _ y101 t104 t105 _ ?side1 ?side2 A1.out).mono ?_); (case side1 => repeat (first | exact (Kd.R_reads' HO103.out).2.2 | (with_reducible refine Kd.C_alloc ?_ _) | (with_reducible refine Kd.C_drewN ?_ _) | (with_reducible refine Kd.C_drew ?_))); (case side2 => exact (Kd.R_reads' HO103.out).2.1); rintro e w10 ⟨rfl, hb⟩; refine ⟨_, rfl, ?_⟩; have n0_ := Aside0.mk (Kd.R_below (by (with_reducible repeat (first | apply Kd.R_alloc | apply Kd.R_drewN | apply Kd.R_drew)); exact HO103.out) hb); have n1_ := Aside0.mk (below_step (by repeat (first | (with_reducible first | exact HB.out | apply below_alloc | apply pw_below_drewN | apply below_drew1) | exact HB.out)) hb); clear HO103; clear HB; have HO103 := n0_; have HB := n1_; clear n0_ n1_; (try clear hb); (try clear hb2); (try clear hk); (try clear hi)))
    go_ret
    exact ⟨by first | rfl | (simp [errW_none, errW_some] <;> rfl) | (simp [*, errW_none, errW_some] <;> rfl), by repeat (first | (with_reducible first | exact HB.out | apply below_alloc | apply pw_below_drewN | apply below_drew1) | exact HB.out)⟩

end Go.Proofs.Ytjehjjpejmdfiaa.PA

/- Functions of the translated program as Lean functions, and what their calls come to: written by this session's own program (wip/xprint.py) over the kit's print. Conditions stand in each theorem. -/
import Derived.Test.YtcggbpefeahkiaaPAx0
namespace Go.Proofs.Ytcggbpefeahkiaa.PA
open Go.RowKit Go.Proofs.YtcggbpefeahkiaaW.PrintWords Go.Proofs.YtcggbpefeahkiaaW.PrintLast Go.Proofs.YtcggbpefeahkiaaW.PrintMore
attribute [local go_sem] max2_int min2_int max_two min_two max_three min_three max_four min_four   -- for this text's walks alone
set_option linter.unusedVariables false
set_option linter.unusedSimpArgs false

/-! ### dice_wrong: function 18 -/
def dice_wrong.isBad (b : Int) : Bool := b != 0 && b != 1
def dice_wrong.bad (l : List Int) : Bool := l.any dice_wrong.isBad
def dice_wrong.val (l : List Int) (times : Int) : Int := if (l.length : Int) > 65536 then 5 else if times < 0 ∨ times > 4096 then 3 else if dice_wrong.bad l = true then 3 else 0
def dice_wrong.f (l : List Int) (times : Int) : Option Int := some (dice_wrong.val l times)
set_option maxHeartbeats 2000000 in
theorem dice_wrong.inner (x : Int) (w : World) : Calls Try.prog 28 #[.int .i64 x] w fun e w' => e = .returned (.bool ((dice_wrong.isBad) x)) ∧ w = w' := by
  by_cases h0 : x = 0
  · subst h0
    go_enter Try.func28, Try.ntmps28
    go_wp2
    go_ret
    exact ⟨rfl, rfl⟩
  · by_cases h1 : x = 1
    · subst h1
      go_enter Try.func28, Try.ntmps28
      go_wp2
      go_ret
      exact ⟨rfl, rfl⟩
    · have a0 : (x == 0) = false := beq_eq_false_iff_ne.2 h0
      have a1 : (x == 1) = false := beq_eq_false_iff_ne.2 h1
      have b0 : (x != 0) = true := bne_iff_ne.2 h0
      have b1 : (x != 1) = true := bne_iff_ne.2 h1
      clear h0 h1
      go_enter Try.func28, Try.ntmps28
      go_wp2
      go_ret
      exact ⟨by simp [dice_wrong.isBad, b0, b1], rfl⟩
set_option maxHeartbeats 2000000 in
theorem dice_wrong.index (A0 : Option Addr) (c0 : Nat) (l0 : List Int) (w : World) (hr0 : Kd.C (Kd.int .i64) w A0 l0.length l0)
    (hf : ∀ x n, Calls Try.prog 28 #[.int .i64 x] (w.drewN n) fun e w' => e = .returned (.bool (dice_wrong.isBad x)) ∧ ∃ n', w' = w.drewN n') :
    Calls Try.prog 36 #[.slice A0 l0.length c0, .func (.func 28) #[] #[]] w fun e w' => (∃ r : Int, e = .returned (.int .i64 r) ∧ (decide (0 ≤ r) = l0.any (dice_wrong.isBad))) ∧ ∃ n', w' = w.drewN n' := by
  obtain ⟨_, hbig, hr⟩ := hr0
  have Hr := Aside0.mk hr
  have Hf := Aside0.mk hf
  clear hr hf
  go_enter Try.func36, Try.ntmps36
  go_wp2
  go_loopw [8] (fun i wr => ∃ k n : Nat, k ≤ l0.length ∧ i = .int .i64 k ∧ wr = w.drewN n ∧ Aside0 ((l0.take k).any (dice_wrong.isBad) = false)) (fun i _ => l0.length - (intOf i).toNat)
  case atStart => exact ⟨0, 0, Nat.zero_le _, rfl, rfl, ⟨rfl⟩⟩
  case round =>
    obtain ⟨k, n, hk, rfl, rfl, Hany⟩ := hrel
    by_cases hlt : k < l0.length
    · obtain ⟨ad, hA, hc⟩ := Hr.out (by omega)
      subst hA
      have hg : l0[k]? = some l0[k] := List.getElem?_eq_getElem hlt
      obtain ⟨c, _, hcs, hcc⟩ := hc k _ hg
      have hcs' : c = [.int .i64 l0[k]] := hcs
      have hcell0 := hcc 0 (.int .i64 l0[k]) (by rw [hcs']; rfl)
      have hcell : (w.drewN n).cell? (ad.add k) = some (.int .i64 l0[k]) := by simpa [show (Kd.int .i64).sz = 1 from rfl] using hcell0
      have Hx := Aside0.mk (List.take_succ_eq_append_getElem hlt)
      have Hmem := Aside0.mk (List.getElem_mem hlt)
      generalize l0[k] = x at hcell Hx Hmem
      clear hcell0 hcs' hcs hcc hg hc
      cases hp : (dice_wrong.isBad) x with
      | false =>
        have Hp := Aside0.mk hp
        clear hp
        have Hf1 := Aside0.mk ((Hf.out x n).mono (R' := fun e w' => e = .returned (.bool false) ∧ ∃ n', w' = w.drewN n') (fun e w' h => by rw [Hp.out] at h; exact h))
        go_wp2_with (first | (go_at_call 28; (with_reducible refine Hf1.out.mono ?_); rintro e w3 ⟨rfl, n', rfl⟩))
        go_roundw
        case rel => exact ⟨k + 1, n', by omega, by go_num, rfl, ⟨by rw [Hx.out, List.any_append, Hany.out]; simp [Hp.out]⟩⟩
        case measure => simp [intOf]; omega
      | true =>
        have Hp := Aside0.mk hp
        clear hp
        have Hf1 := Aside0.mk ((Hf.out x n).mono (R' := fun e w' => e = .returned (.bool true) ∧ ∃ n', w' = w.drewN n') (fun e w' h => by rw [Hp.out] at h; exact h))
        go_wp2_with (first | (go_at_call 28; (with_reducible refine Hf1.out.mono ?_); rintro e w3 ⟨rfl, n', rfl⟩))
        go_ret
        exact ⟨⟨_, rfl, by rw [decide_eq_true (by omega)]; exact (List.any_eq_true.2 ⟨x, Hmem.out, Hp.out⟩).symm⟩, n', rfl⟩
    · go_wp2
      go_ret
      exact ⟨⟨_, rfl, by have h : k = l0.length := (by omega); have h2 := Hany.out; rw [h, List.take_length] at h2; rw [h2]; rfl⟩, n, rfl⟩
set_option maxHeartbeats 2000000 in
theorem dice_wrong.contains (A0 : Option Addr) (c0 : Nat) (l0 : List Int) (w : World) (hr0 : Kd.C (Kd.int .i64) w A0 l0.length l0)
    (hf : ∀ x n, Calls Try.prog 28 #[.int .i64 x] (w.drewN n) fun e w' => e = .returned (.bool (dice_wrong.isBad x)) ∧ ∃ n', w' = w.drewN n') :
    Calls Try.prog 27 #[.slice A0 l0.length c0, .func (.func 28) #[] #[]] w fun e w' => e = .returned (.bool (l0.any (dice_wrong.isBad))) ∧ ∃ n', w' = w.drewN n' := by
  have HI := Aside0.mk (dice_wrong.index A0 c0 l0 w hr0 hf)
  clear hr0 hf
  go_enter Try.func27, Try.ntmps27
  go_wp2_with (first | (go_at_call 36; (with_reducible refine HI.out.mono ?_); rintro e w3 ⟨⟨r, rfl, hr⟩, n', rfl⟩; have Hr := Aside0.mk hr; clear hr))
  go_ret
  exact ⟨by rw [← Hr.out]; rfl, n', rfl⟩
set_option maxHeartbeats 2000000 in
theorem dice_wrong.calls (A0 : Option Addr) (c0 : Nat) (l0 : List Int) (a1 : Int) (r : Int) (w : World) (hr0 : Kd.C (Kd.int .i64) w A0 l0.length l0) (hc0 : l0.length ≤ c0) (h : dice_wrong.f l0 a1 = some r) :
    Calls Try.prog 18 #[.slice A0 l0.length c0, .int .i64 a1] w fun e w' => e = .returned (.int .i64 r) ∧ Drawn0 w w' := by
  unfold dice_wrong.f at h
  obtain rfl := Option.some.inj h
  have HC := Aside0.mk (dice_wrong.contains A0 c0 l0 w hr0 (fun x n => (dice_wrong.inner x (w.drewN n)).mono (fun e w' h => ⟨h.1, n, h.2.symm⟩)))
  clear hr0 h hc0
  by_cases h1 : (l0.length : Int) > 65536
  · have h1' : decide ((65536 : Int) < (l0.length : Int)) = true := decide_eq_true (by omega)
    have Hv := Aside0.mk (show dice_wrong.val l0 a1 = 5 from if_pos h1)
    clear h1
    go_enter Try.func18, Try.ntmps18
    go_wp2
    go_ret
    exact ⟨by rw [Hv.out]; rfl, Drawn0.refl _⟩
  · have H1 := Aside0.mk h1
    have h1' : decide ((65536 : Int) < (l0.length : Int)) = false := decide_eq_false (by omega)
    clear h1
    by_cases h2 : a1 < 0
    · have Hv := Aside0.mk (show dice_wrong.val l0 a1 = 3 from (if_neg H1.out).trans (if_pos (Or.inl h2)))
      go_enter Try.func18, Try.ntmps18
      go_wp2
      go_ret
      exact ⟨by rw [Hv.out]; rfl, Drawn0.refl _⟩
    · by_cases h3 : a1 > 4096
      · have Hv := Aside0.mk (show dice_wrong.val l0 a1 = 3 from (if_neg H1.out).trans (if_pos (Or.inr h3)))
        have h2' : 0 ≤ a1 := by omega
        clear h2
        go_enter Try.func18, Try.ntmps18
        go_wp2
        go_ret
        exact ⟨by rw [Hv.out]; rfl, Drawn0.refl _⟩
      · have H3 := Aside0.mk (show ¬ (a1 < 0 ∨ a1 > 4096) by omega)
        have h2' : 0 ≤ a1 := by omega
        have h3' : a1 ≤ 4096 := by omega
        clear h2 h3
        cases hb : dice_wrong.bad l0 with
        | false =>
          have Hv := Aside0.mk (show dice_wrong.val l0 a1 = 0 from (if_neg H1.out).trans ((if_neg H3.out).trans (if_neg (by rw [hb]; simp))))
          have HC2 := Aside0.mk (HC.out.mono (R' := fun e w' => e = .returned (.bool false) ∧ ∃ n', w' = w.drewN n') (fun e w' h => ⟨h.1.trans (congrArg (fun b => Ending.returned (.bool b)) hb), h.2⟩))
          clear hb HC
          go_enter Try.func18, Try.ntmps18
          go_wp2_with (first | (go_at_call 27; (with_reducible refine HC2.out.mono ?_); rintro e w3 ⟨rfl, n', rfl⟩))
          go_ret
          exact ⟨by rw [Hv.out]; rfl, ⟨n', rfl⟩⟩
        | true =>
          have Hv := Aside0.mk (show dice_wrong.val l0 a1 = 3 from (if_neg H1.out).trans ((if_neg H3.out).trans (if_pos hb)))
          have HC2 := Aside0.mk (HC.out.mono (R' := fun e w' => e = .returned (.bool true) ∧ ∃ n', w' = w.drewN n') (fun e w' h => ⟨h.1.trans (congrArg (fun b => Ending.returned (.bool b)) hb), h.2⟩))
          clear hb HC
          go_enter Try.func18, Try.ntmps18
          go_wp2_with (first | (go_at_call 27; (with_reducible refine HC2.out.mono ?_); rintro e w3 ⟨rfl, n', rfl⟩))
          go_ret
          exact ⟨by rw [Hv.out]; rfl, ⟨n', rfl⟩⟩


end Go.Proofs.Ytcggbpefeahkiaa.PA

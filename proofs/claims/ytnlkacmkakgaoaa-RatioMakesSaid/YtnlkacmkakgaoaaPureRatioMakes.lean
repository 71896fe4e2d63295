/- RatioMakes' pure statement: Make, Right and Power of the program and of the reference are the same. Conditions: the numbers are int's. -/
import Derived.Test.YtnlkacmkakgaoaaPAx11
import Derived.Test.YtnlkacmkakgaoaaRatioRef
import Derived.Test.YtnlkacmkakgaoaaRatioOps
namespace Go.Proofs.Ytnlkacmkakgaoaa.Pure
open Go.RowKit Go.Proofs.Ytnlkacmkakgaoaa.PA Go.Proofs.YtnlkacmkakgaoaaW.PrintWords Go.Proofs.YtnlkacmkakgaoaaW.PrintLast Go.Proofs.YtnlkacmkakgaoaaW.PrintMore Go.Proofs.YtnlkacmkakgaoaaW.EvKit Go.Proofs.Ytnlkacmkakgaoaa.RatioSpec

theorem powers_both (p q n : Nat) (hp : p ≤ 1073741824) (hq1 : 1 ≤ q) (hq : q ≤ 1073741824) (hc : Nat.gcd p q = 1) (hn : n ≤ 4096) : ∀ (d i : Nat), i + d = n → p ^ i ≤ 1073741824 → q ^ i ≤ 1073741824 →
    ∃ r, Ev (fun k => ratio_Power.l0 k (n : Int) (i : Int) (p : Int) (q : Int) ((p ^ i : Nat) : Int) ((q ^ i : Nat) : Int)) r ∧ Ev (fun k => hushref1_Power.l0 k (n : Int) ((p ^ i : Nat) : Int) ((q ^ i : Nat) : Int) (i : Int) (p : Int) (q : Int)) r := by
  intro d
  induction d with
  | zero =>
    intro i hi b1 b2
    refine ⟨_, Ev.step (fun k => ratio_Power.l0.eq_2 _ _ _ _ _ _ k) (Ev.neg (by omega) (Ev.ret _)), Ev.step (fun k => hushref1_Power.l0.eq_2 _ _ _ _ _ _ k) (Ev.neg (by omega) ?_)⟩
    by_cases h0 : ((p ^ i : Nat) : Int) = 0
    · refine Ev.pos h0 (Ev.eq (Ev.ret _) ?_)
      have h1 : p ^ i = 0 := by omega
      have hg : Nat.gcd (p ^ i) (q ^ i) = 1 := Nat.Coprime.pow i i hc
      rw [h1, Nat.gcd_zero_left] at hg
      rw [hg]; rfl
    · exact Ev.neg h0 (Ev.ret _)
  | succ d ih =>
    intro i hi b1 b2
    have hw : wrap64 ((i : Int) + 1) = ((i + 1 : Nat) : Int) := by rw [wrap64_of (by omega) (by omega)]; omega
    have hgi : Nat.gcd (p ^ i) (q ^ i) = 1 := Nat.Coprime.pow i i hc
    have hgs : Nat.gcd (p ^ (i + 1)) (q ^ (i + 1)) = 1 := Nat.Coprime.pow (i + 1) (i + 1) hc
    have q1 : 1 ≤ q ^ i := Nat.pow_pos (by omega)
    have q2 : 1 ≤ q ^ (i + 1) := Nat.pow_pos (by omega)
    have hr : rightS ((p ^ i : Nat) : Int) ((q ^ i : Nat) : Int) = true := rightS_iff.2 ⟨by omega, by omega, by omega, by omega, hgi⟩
    have hr' : rightS (p : Int) (q : Int) = true := rightS_iff.2 ⟨by omega, by omega, by omega, by omega, hc⟩
    obtain ⟨k1, k2, _, _⟩ := right4 hr hr'
    have e1 : ((p ^ i : Nat) : Int) * (p : Int) = ((p ^ (i + 1) : Nat) : Int) := by rw [Nat.pow_succ]; simp
    have e2 : ((q ^ i : Nat) : Int) * (q : Int) = ((q ^ (i + 1) : Nat) : Int) := by rw [Nat.pow_succ]; simp
    rw [e1] at k1
    rw [e2] at k2
    have hgI : Int.gcd ((p ^ (i + 1) : Nat) : Int) ((q ^ (i + 1) : Nat) : Int) = 1 := hgs
    have ht : timesS ((p ^ i : Nat) : Int) ((q ^ i : Nat) : Int) (p : Int) (q : Int) = if ((p ^ (i + 1) : Nat) : Int) > 1073741824 ∨ ((q ^ (i + 1) : Nat) : Int) > 1073741824 then (0, 0, 4) else (((p ^ (i + 1) : Nat) : Int), ((q ^ (i + 1) : Nat) : Int), 0) := by
      unfold timesS bothS makeS
      rw [if_pos ⟨hr, hr'⟩, e1, e2, if_neg (by omega), hgI]
      simp
    have hT := times_ev ((p ^ i : Nat) : Int) ((q ^ i : Nat) : Int) (p : Int) (q : Int)
    rw [ht] at hT
    have w1 : wrap64 (((p ^ i : Nat) : Int) * (p : Int)) = ((p ^ (i + 1) : Nat) : Int) := by rw [e1]; exact wrap64_of (by omega) (by omega)
    have w2 : wrap64 (((q ^ i : Nat) : Int) * (q : Int)) = ((q ^ (i + 1) : Nat) : Int) := by rw [e2]; exact wrap64_of (by omega) (by omega)
    by_cases c1 : ((p ^ (i + 1) : Nat) : Int) > 1073741824
    · refine ⟨(0, 0, 4), Ev.step (fun k => ratio_Power.l0.eq_2 _ _ _ _ _ _ k) (Ev.pos (by omega) (Ev.bind hT ?_)), Ev.step (fun k => hushref1_Power.l0.eq_2 _ _ _ _ _ _ k) (Ev.pos (by omega) ?_)⟩
      · rw [if_pos (.inl c1)]
        exact Ev.neg (by simp) (Ev.ret _)
      · rw [w1]
        exact Ev.pos c1 (Ev.ret _)
    · by_cases c2 : ((q ^ (i + 1) : Nat) : Int) > 1073741824
      · refine ⟨(0, 0, 4), Ev.step (fun k => ratio_Power.l0.eq_2 _ _ _ _ _ _ k) (Ev.pos (by omega) (Ev.bind hT ?_)), Ev.step (fun k => hushref1_Power.l0.eq_2 _ _ _ _ _ _ k) (Ev.pos (by omega) ?_)⟩
        · rw [if_pos (.inr c2)]
          exact Ev.neg (by simp) (Ev.ret _)
        · rw [w1, w2]
          exact Ev.neg c1 (Ev.pos c2 (Ev.ret _))
      · obtain ⟨r, hA, hB⟩ := ih (i + 1) (by omega) (Int.ofNat_le.1 (Int.not_lt.1 c1)) (Int.ofNat_le.1 (Int.not_lt.1 c2))
        rw [if_neg (fun h => h.elim c1 c2)] at hT
        refine ⟨r, Ev.step (fun k => ratio_Power.l0.eq_2 _ _ _ _ _ _ k) (Ev.pos (by omega) (Ev.bind hT ?_)), Ev.step (fun k => hushref1_Power.l0.eq_2 _ _ _ _ _ _ k) (Ev.pos (by omega) ?_)⟩
        · dsimp only
          refine Ev.pos rfl ?_
          rw [hw]
          exact hA
        · rw [w1, w2, hw]
          exact Ev.neg c1 (Ev.neg c2 hB)

theorem power_both (u d n : Int) (hu : -9223372036854775808 ≤ u ∧ u ≤ 9223372036854775807) (hd : -9223372036854775808 ≤ d ∧ d ≤ 9223372036854775807) :
    ∃ r, Ev (fun k => ratio_Power.f k u d n) r ∧ Ev (fun k => hushref1_Power.f k u d n) r := by
  have hR := right_ev u d
  have hR' := rright_ev hu hd
  cases h : rightS u d with
  | false =>
    rw [h] at hR hR'
    exact ⟨(0, 0, 2), Ev.bind hR (Ev.neg (by simp) (Ev.ret _)), Ev.bind hR' (Ev.neg (by simp) (Ev.ret _))⟩
  | true =>
    rw [h] at hR hR'
    by_cases h0 : n < 0
    · exact ⟨(0, 0, 3), Ev.bind hR (Ev.pos rfl (Ev.pos h0 (Ev.step (fun k => ratio_Power.j0.eq_2 _ _ _ _ k) (Ev.pos rfl (Ev.ret _))))), Ev.bind hR' (Ev.pos rfl (Ev.pos h0 (Ev.step (fun k => hushref1_Power.j0.eq_2 _ _ _ _ k) (Ev.pos rfl (Ev.ret _)))))⟩
    · by_cases h1 : n > 4096
      · exact ⟨(0, 0, 3), Ev.bind hR (Ev.pos rfl (Ev.neg h0 (Ev.step (fun k => ratio_Power.j0.eq_2 _ _ _ _ k) (Ev.pos (by simpa using h1) (Ev.ret _))))), Ev.bind hR' (Ev.pos rfl (Ev.neg h0 (Ev.step (fun k => hushref1_Power.j0.eq_2 _ _ _ _ k) (Ev.pos (by simpa using h1) (Ev.ret _)))))⟩
      · obtain ⟨p1, p2, p3, p4, p5⟩ := rightS_iff.1 h
        obtain ⟨p, rfl⟩ := Int.eq_ofNat_of_zero_le p1
        obtain ⟨q, rfl⟩ := Int.eq_ofNat_of_zero_le (show 0 ≤ d by omega)
        obtain ⟨m, rfl⟩ := Int.eq_ofNat_of_zero_le (show 0 ≤ n by omega)
        obtain ⟨r, hA, hB⟩ := powers_both p q m (by omega) (by omega) (by omega) p5 (by omega) m 0 (by omega) (by simp) (by simp)
        exact ⟨r, Ev.bind hR (Ev.pos rfl (Ev.neg h0 (Ev.step (fun k => ratio_Power.j0.eq_2 _ _ _ _ k) (Ev.neg (by simpa using h1) hA)))), Ev.bind hR' (Ev.pos rfl (Ev.neg h0 (Ev.step (fun k => hushref1_Power.j0.eq_2 _ _ _ _ k) (Ev.neg (by simpa using h1) hB))))⟩

theorem RatioMakes : hushlaw1_RatioMakes.Pure := by
  intro u d r n hu hd hr hn
  have hu := wf64 hu
  have hd := wf64 hd
  have h0 := wf64 hr.1
  have h1 := wf64 hr.2
  obtain ⟨s, hA, hB⟩ := power_both r.f0 r.f1 n h0 h1
  refine Ev.rounds (Ev.bind (make_ev hu hd) (Ev.bind (rmake_ev hu hd) (Ev.neg (by simp) (Ev.pos rfl (Ev.bind (right_ev _ _) (Ev.bind (rright_ev h0 h1) ?_))))))
  refine Ev.step (fun k => hushlaw1_RatioMakes.j0.eq_2 _ _ _ _ k) (Ev.neg (by simp) (Ev.bind hA (Ev.bind hB (Ev.pos (by simp) (Ev.eq (Ev.ret _) (by simp))))))
end Go.Proofs.Ytnlkacmkakgaoaa.Pure

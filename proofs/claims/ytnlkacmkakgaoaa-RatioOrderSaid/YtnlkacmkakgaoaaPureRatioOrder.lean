/- RatioOrder's pure statement: the order goes with sums and products, and is one. Conditions: the numbers are int's. -/
import Derived.Test.YtnlkacmkakgaoaaPAx6
import Derived.Test.YtnlkacmkakgaoaaRatioOps
import Derived.Test.YtnlkacmkakgaoaaRatioMath
namespace Go.Proofs.Ytnlkacmkakgaoaa.Pure
open Go.RowKit Go.Proofs.Ytnlkacmkakgaoaa.PA Go.Proofs.YtnlkacmkakgaoaaW.PrintWords Go.Proofs.YtnlkacmkakgaoaaW.PrintLast Go.Proofs.YtnlkacmkakgaoaaW.PrintMore Go.Proofs.YtnlkacmkakgaoaaW.EvKit Go.Proofs.Ytnlkacmkakgaoaa.RatioSpec

/-- A sum, or a product; is it told? -/
def twoS (plus : Bool) (a0 a1 b0 b1 : Int) : Int × Int × Bool :=
  let r := if plus = true then plusS a0 a1 b0 b1 else timesS a0 a1 b0 b1
  (r.1, r.2.1, r.2.2 == 0)
theorem two_ev (plus : Bool) (a0 a1 b0 b1 : Int) : Ev (fun k => hushlaw1_two.f k plus a0 a1 b0 b1) (twoS plus a0 a1 b0 b1) := by
  cases plus with
  | true => exact Ev.pos rfl (Ev.bind (plus_ev a0 a1 b0 b1) (Ev.ret _))
  | false => exact Ev.neg (by simp) (Ev.bind (times_ev a0 a1 b0 b1) (Ev.ret _))

theorem bothS_ok {a0 a1 b0 b1 p q : Int} {r : Int × Int × Int} (h : bothS a0 a1 b0 b1 r = (p, q, 0)) : rightS a0 a1 = true ∧ rightS b0 b1 = true ∧ r = (p, q, 0) := by
  unfold bothS at h
  split at h
  · rename_i h0
    exact ⟨h0.1, h0.2, h⟩
  · simp at h

theorem order_two {a0 a1 b0 b1 z0 z1 p q p' q' : Int} (ha : rightS a0 a1 = true) (hb : rightS b0 b1 = true) (plus : Bool) (h : twoS plus a0 a1 z0 z1 = (p, q, true)) (h' : twoS plus b0 b1 z0 z1 = (p', q', true)) :
    rightS p q = true ∧ rightS p' q' = true ∧ (cmp3 (p * q') (p' * q) = cmp3 (a0 * b1) (b0 * a1) ∨ plus = false ∧ z0 = 0 ∧ cmp3 (p * q') (p' * q) = 0) := by
  obtain ⟨p1, p2, _, _, _⟩ := rightS_iff.1 ha
  obtain ⟨q1, q2, _, _, _⟩ := rightS_iff.1 hb
  cases plus with
  | true =>
    have e : plusS a0 a1 z0 z1 = (p, q, 0) := by simp [twoS] at h; ext <;> simp [h]
    have e' : plusS b0 b1 z0 z1 = (p', q', 0) := by simp [twoS] at h'; ext <;> simp [h']
    obtain ⟨_, hz, e⟩ := bothS_ok e
    obtain ⟨_, _, e'⟩ := bothS_ok e'
    obtain ⟨z1', z2', _, _, _⟩ := rightS_iff.1 hz
    obtain ⟨_, _, r1, m1⟩ := makeS_ok e
    obtain ⟨_, _, r2, m2⟩ := makeS_ok e'
    obtain ⟨u1, u2, _, _, _⟩ := rightS_iff.1 r1
    obtain ⟨v1, v2, _, _, _⟩ := rightS_iff.1 r2
    refine ⟨r1, r2, .inl (cmp3_of (K := (a1 * z1) * (b1 * z1)) (L := (q * q') * (z1 * z1)) ?_ ?_ ?_)⟩
    · exact Int.mul_pos (Int.mul_pos (by omega) (by omega)) (Int.mul_pos (by omega) (by omega))
    · exact Int.mul_pos (Int.mul_pos (by omega) (by omega)) (Int.mul_pos (by omega) (by omega))
    · grind
  | false =>
    have e : timesS a0 a1 z0 z1 = (p, q, 0) := by simp [twoS] at h; ext <;> simp [h]
    have e' : timesS b0 b1 z0 z1 = (p', q', 0) := by simp [twoS] at h'; ext <;> simp [h']
    obtain ⟨_, hz, e⟩ := bothS_ok e
    obtain ⟨_, _, e'⟩ := bothS_ok e'
    obtain ⟨z1', z2', _, _, _⟩ := rightS_iff.1 hz
    obtain ⟨_, _, r1, m1⟩ := makeS_ok e
    obtain ⟨_, _, r2, m2⟩ := makeS_ok e'
    obtain ⟨u1, u2, _, _, _⟩ := rightS_iff.1 r1
    obtain ⟨v1, v2, _, _, _⟩ := rightS_iff.1 r2
    refine ⟨r1, r2, ?_⟩
    rcases Int.lt_or_eq_of_le z1' with hlt | heq
    · refine .inl (cmp3_of (K := (a1 * z1) * (b1 * z1)) (L := (q * q') * (z0 * z1)) ?_ ?_ ?_)
      · exact Int.mul_pos (Int.mul_pos (by omega) (by omega)) (Int.mul_pos (by omega) (by omega))
      · exact Int.mul_pos (Int.mul_pos (by omega) (by omega)) (Int.mul_pos (by omega) (by omega))
      · grind
    · refine .inr ⟨rfl, heq.symm, ?_⟩
      subst heq
      have hp : p * (a1 * z1) = 0 := by rw [m1]; simp
      have hp' : p' * (b1 * z1) = 0 := by rw [m2]; simp
      have k1 : 0 < a1 * z1 := Int.mul_pos (by omega) (by omega)
      have k2 : 0 < b1 * z1 := Int.mul_pos (by omega) (by omega)
      have p0 : p = 0 := by rcases Int.mul_eq_zero.1 hp with h | h <;> omega
      have p0' : p' = 0 := by rcases Int.mul_eq_zero.1 hp' with h | h <;> omega
      rw [p0, p0']
      simp [cmp3]

theorem order_trans {a0 a1 b0 b1 z0 z1 : Int} (ha : rightS a0 a1 = true) (hb : rightS b0 b1 = true) (hz : rightS z0 z1 = true) (h : cmp3 (a0 * b1) (b0 * a1) ≤ 0) (h' : cmp3 (b0 * z1) (z0 * b1) ≤ 0) : cmp3 (a0 * z1) (z0 * a1) ≤ 0 := by
  obtain ⟨p1, p2, _, _, _⟩ := rightS_iff.1 ha
  obtain ⟨q1, q2, _, _, _⟩ := rightS_iff.1 hb
  obtain ⟨z1', z2', _, _, _⟩ := rightS_iff.1 hz
  have le_of : ∀ m n : Int, cmp3 m n ≤ 0 ↔ m ≤ n := by
    intro m n
    unfold cmp3
    split
    · omega
    · split <;> omega
  rw [le_of] at h h' ⊢
  have h1 : a0 * b1 * z1 ≤ b0 * a1 * z1 := Int.mul_le_mul_of_nonneg_right h (by omega)
  have h2 : b0 * z1 * a1 ≤ z0 * b1 * a1 := Int.mul_le_mul_of_nonneg_right h' (by omega)
  have h3 : (a0 * z1) * b1 ≤ (z0 * a1) * b1 := by
    have e1 : a0 * z1 * b1 = a0 * b1 * z1 := by grind
    have e2 : z0 * a1 * b1 = z0 * b1 * a1 := by grind
    have e3 : b0 * a1 * z1 = b0 * z1 * a1 := by grind
    omega
  exact Int.le_of_mul_le_mul_right h3 (by omega)

theorem alive1 : Ev (fun k => hushlaw1_alive.f k) true := Ev.of hushlaw1_alive.mono (k := 10) (by decide +kernel)

theorem order_end {a0 a1 b0 b1 z0 z1 : Int} (ha : rightS a0 a1 = true) (hb : rightS b0 b1 = true) :
    Ev (fun k => (ratio_Order.f k b0 b1 z0 z1).bind fun bt => (if bt.2 = 0 then (if cmp3 (a0 * b1) (b0 * a1) > 0 then (some true) else (if bt.1 > 0 then (some true) else ((ratio_Order.f k a0 a1 z0 z1).bind fun bt => (if bt.2 = 0 then (some (decide (bt.1 ≤ 0))) else (some false))))) else (some true))) true := by
  refine Ev.bind (order_ev b0 b1 z0 z1) ?_
  cases hz : rightS z0 z1 with
  | false =>
    have e : orderS b0 b1 z0 z1 = (0, 2) := by unfold orderS; rw [if_neg (by simp [hz])]
    rw [e]
    exact Ev.neg (by simp) (Ev.ret _)
  | true =>
    rw [orderS_right hb hz]
    refine Ev.pos rfl ?_
    by_cases c1 : cmp3 (a0 * b1) (b0 * a1) > 0
    · exact Ev.pos c1 (Ev.ret _)
    · refine Ev.neg c1 ?_
      by_cases c2 : cmp3 (b0 * z1) (z0 * b1) > 0
      · exact Ev.pos c2 (Ev.ret _)
      · refine Ev.neg c2 (Ev.bind (order_ev a0 a1 z0 z1) ?_)
        rw [orderS_right ha hz]
        exact Ev.pos rfl (Ev.eq (Ev.ret _) (by simpa using order_trans ha hb hz (by omega) (by omega)))

theorem order_round {a0 a1 b0 b1 z0 z1 : Int} (ha : rightS a0 a1 = true) (hb : rightS b0 b1 = true) (l : List Bool) (i : Nat) (hi : i < l.length) (hl : l.length ≤ 100)
    (h : Ev (fun k => hushlaw1_RatioOrder.l0 k (cmp3 (a0 * b1) (b0 * a1)) l (l.length : Int) ((i + 1 : Nat) : Int) a0 a1 b0 b1 z0 z1) true) :
    Ev (fun k => hushlaw1_RatioOrder.l0 k (cmp3 (a0 * b1) (b0 * a1)) l (l.length : Int) (i : Int) a0 a1 b0 b1 z0 z1) true := by
  have hw : wrap64 ((i : Int) + 1) = ((i + 1 : Nat) : Int) := by rw [wrap64_of (by omega) (by omega)]; omega
  generalize hp : rdOf false l (i : Int) = plus at *
  refine Ev.step (fun k => hushlaw1_RatioOrder.l0.eq_2 _ _ _ _ _ _ _ _ _ _ k) (Ev.pos (by omega) (Ev.pos (by omega) (Ev.pos (by omega) ?_)))
  rw [hp]
  refine Ev.bind (two_ev plus a0 a1 z0 z1) (Ev.bind (two_ev plus b0 b1 z0 z1) ?_)
  generalize e1 : twoS plus a0 a1 z0 z1 = r
  generalize e2 : twoS plus b0 b1 z0 z1 = s
  obtain ⟨p, q, t⟩ := r
  obtain ⟨p', q', t'⟩ := s
  have skip : Ev (fun k => hushlaw1_RatioOrder.j2 k (cmp3 (a0 * b1) (b0 * a1)) plus l (l.length : Int) (i : Int) true a0 a1 b0 b1 z0 z1 p q p' q') true := by
    refine Ev.step (fun k => hushlaw1_RatioOrder.j2.eq_2 _ _ _ _ _ _ _ _ _ _ _ _ _ _ _ _ k) (Ev.pos rfl ?_)
    rw [hw]
    exact h
  cases t with
  | false => exact Ev.neg (by simp) skip
  | true =>
    refine Ev.pos rfl ?_
    cases t' with
    | false => exact skip
    | true =>
      obtain ⟨r1, r2, hc⟩ := order_two ha hb plus e1 e2
      refine Ev.step (fun k => hushlaw1_RatioOrder.j2.eq_2 _ _ _ _ _ _ _ _ _ _ _ _ _ _ _ _ k) (Ev.neg (by simp) (Ev.bind (order_ev p q p' q') ?_))
      rw [orderS_right r1 r2, hw]
      refine Ev.pos rfl ?_
      by_cases c : cmp3 (p * q') (p' * q) = cmp3 (a0 * b1) (b0 * a1)
      · exact Ev.pos c h
      · obtain ⟨c1, c2, c3⟩ := hc.resolve_left c
        exact Ev.neg c (Ev.neg (by simp [c1]) (Ev.pos c2 (Ev.pos c3 h)))

theorem RatioOrder : hushlaw1_RatioOrder.Pure := by
  intro x y z _ _ _
  refine Ev.rounds (Ev.bind alive1 (Ev.pos rfl (Ev.bind (order_ev x.f0 x.f1 y.f0 y.f1) ?_)))
  by_cases hr : rightS x.f0 x.f1 = true ∧ rightS y.f0 y.f1 = true
  · obtain ⟨ha, hb⟩ := hr
    rw [orderS_right ha hb]
    refine Ev.pos rfl (Ev.bind (order_ev y.f0 y.f1 x.f0 x.f1) ?_)
    rw [orderS_right hb ha]
    have hn := cmp3_neg (x.f0 * y.f1) (y.f0 * x.f1)
    have hw : wrap64 (-cmp3 (y.f0 * x.f1) (x.f0 * y.f1)) = cmp3 (x.f0 * y.f1) (y.f0 * x.f1) := by
      rw [hn, Int.neg_neg]
      apply wrap64_of <;> (unfold cmp3; split <;> (try split) <;> omega)
    refine Ev.pos rfl (Ev.pos hw.symm ?_)
    have hs : ((cmp3 (x.f0 * y.f1) (y.f0 * x.f1) == 0) != (x.f0 == y.f0 && (x.f1 == y.f1))) = false := by
      by_cases he : x.f0 * y.f1 = y.f0 * x.f1
      · obtain ⟨e1, e2⟩ := right_same ha hb he
        rw [cmp3_zero.2 he, e1, e2]
        simp
      · have h1 : ¬ cmp3 (x.f0 * y.f1) (y.f0 * x.f1) = 0 := fun h => he (cmp3_zero.1 h)
        have h2 : ¬ (x.f0 = y.f0 ∧ x.f1 = y.f1) := fun h => he (by rw [h.1, h.2])
        rw [beq_eq_false_iff_ne.2 h1]
        simp
        exact fun h => fun h' => h2 ⟨h, h'⟩
    simp only [hs]
    refine Ev.step (fun k => hushlaw1_RatioOrder.j0.eq_2 _ _ _ _ _ _ _ _ k) (Ev.neg (by simp) (Ev.pureBind ?_))
    refine order_round ha hb [false, true] 0 (by simp) (by simp) (order_round ha hb [false, true] 1 (by simp) (by simp) ?_)
    exact Ev.step (fun k => hushlaw1_RatioOrder.l0.eq_2 _ _ _ _ _ _ _ _ _ _ k) (Ev.neg (by simp) (order_end ha hb))
  · have e : orderS x.f0 x.f1 y.f0 y.f1 = (0, 2) := by unfold orderS; rw [if_neg hr]
    rw [e]
    exact Ev.neg (by simp) (Ev.ret _)
end Go.Proofs.Ytnlkacmkakgaoaa.Pure

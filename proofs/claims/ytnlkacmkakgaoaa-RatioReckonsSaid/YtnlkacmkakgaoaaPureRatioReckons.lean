/- RatioReckons' pure statement: Times, Over, Plus, Minus, Order of the program and of the reference are the same. Conditions: the numbers are int's. -/
import Derived.Test.YtnlkacmkakgaoaaPAx14
import Derived.Test.YtnlkacmkakgaoaaRatioRef
import Derived.Test.YtnlkacmkakgaoaaRatioOps
namespace Go.Proofs.Ytnlkacmkakgaoaa.Pure
open Go.RowKit Go.Proofs.Ytnlkacmkakgaoaa.PA Go.Proofs.YtnlkacmkakgaoaaW.PrintWords Go.Proofs.YtnlkacmkakgaoaaW.PrintLast Go.Proofs.YtnlkacmkakgaoaaW.PrintMore Go.Proofs.YtnlkacmkakgaoaaW.EvKit Go.Proofs.Ytnlkacmkakgaoaa.RatioSpec

theorem ref_bind {m : Nat → Option (Int × Int × Int)} {r : Int × Int × Int} (h : Ev m r) : Ev (fun k => (m k).bind fun b => some (b.1, b.2.1, b.2.2)) r := Ev.bind h (Ev.ret _)

theorem rorder_ev {a0 a1 b0 b1 : Int} (ha : -9223372036854775808 ≤ a0 ∧ a0 ≤ 9223372036854775807) (ha1 : -9223372036854775808 ≤ a1 ∧ a1 ≤ 9223372036854775807) (hb : -9223372036854775808 ≤ b0 ∧ b0 ≤ 9223372036854775807) (hb1 : -9223372036854775808 ≤ b1 ∧ b1 ≤ 9223372036854775807) :
    Ev (fun k => hushref1_Order.f k a0 a1 b0 b1) (orderS a0 a1 b0 b1) := by
  unfold orderS
  refine Ev.bind (rright_ev ha ha1) ?_
  cases h : rightS a0 a1 with
  | false => exact Ev.neg (by simp) (Ev.eq (Ev.step (fun k => hushref1_Order.j0.eq_2 _ _ _ _ _ k) (Ev.pos rfl (Ev.ret _))) (by simp))
  | true =>
    refine Ev.pos rfl (Ev.bind (rright_ev hb hb1) ?_)
    cases h' : rightS b0 b1 with
    | false => exact Ev.eq (Ev.step (fun k => hushref1_Order.j0.eq_2 _ _ _ _ _ k) (Ev.pos rfl (Ev.ret _))) (by simp)
    | true =>
      obtain ⟨k1, k2, k3, k4⟩ := right4 h h'
      refine Ev.step (fun k => hushref1_Order.j0.eq_2 _ _ _ _ _ k) (Ev.neg (by simp) ?_)
      rw [wrap64_of (x := a0 * b1) (by omega) (by omega), wrap64_of (x := b0 * a1) (by omega) (by omega)]
      by_cases c1 : a0 * b1 < b0 * a1
      · exact Ev.pos (by omega) (Ev.eq (Ev.ret _) (by simp [c1]))
      · by_cases c2 : a0 * b1 > b0 * a1
        · exact Ev.neg (by omega) (Ev.pos (by omega) (Ev.eq (Ev.ret _) (by simp [c1, c2])))
        · exact Ev.neg (by omega) (Ev.neg (by omega) (Ev.eq (Ev.ret _) (by simp [c1, c2])))

theorem RatioReckons : hushlaw1_RatioReckons.Pure := by
  intro x y hx hy
  have a0 := wf64 hx.1
  have a1 := wf64 hx.2
  have b0 := wf64 hy.1
  have b1 := wf64 hy.2
  have hR : ∀ u d : Int, (-9223372036854775808 ≤ u ∧ u ≤ 9223372036854775807) → (-9223372036854775808 ≤ d ∧ d ≤ 9223372036854775807) → Ev (fun k => hushref1_Right.f k u d) (rightS u d) := fun _ _ => rright_ev
  have both : ∀ {m : Nat → Option (Int × Int × Int)} {r}, (rightS x.f0 x.f1 = true → rightS y.f0 y.f1 = true → Ev m r) →
      Ev (fun k => (hushref1_Right.f k x.f0 x.f1).bind fun t => (if t = true then ((hushref1_Right.f k y.f0 y.f1).bind fun u => (if u = true then ((m k).bind fun b => some (b.1, b.2.1, b.2.2)) else (some (0, 0, 2)))) else (some (0, 0, 2)))) (bothS x.f0 x.f1 y.f0 y.f1 r) := by
    intro m r hm
    unfold bothS
    refine Ev.bind (hR _ _ a0 a1) ?_
    cases h : rightS x.f0 x.f1 with
    | false => exact Ev.neg (by simp) (Ev.eq (Ev.ret _) (by simp))
    | true =>
      refine Ev.pos rfl (Ev.bind (hR _ _ b0 b1) ?_)
      cases h' : rightS y.f0 y.f1 with
      | false => exact Ev.neg (by simp) (Ev.eq (Ev.ret _) (by simp))
      | true => exact Ev.pos rfl (Ev.eq (ref_bind (hm h h')) (by simp))
  refine Ev.rounds (Ev.bind (times_ev _ _ _ _) (Ev.bind (a := timesS x.f0 x.f1 y.f0 y.f1) (both (times_m rmake_ev)) (Ev.neg (by simp) ?_)))
  refine Ev.step (fun k => hushlaw1_RatioReckons.j0.eq_2 _ _ _ _ _ k) (Ev.neg (by simp) (Ev.bind (over_ev _ _ _ _) (Ev.bind (a := overS x.f0 x.f1 y.f0 y.f1) (both (over_m rmake_ev)) (Ev.neg (by simp) ?_))))
  refine Ev.step (fun k => hushlaw1_RatioReckons.j1.eq_2 _ _ _ _ _ k) (Ev.neg (by simp) (Ev.bind (plus_ev _ _ _ _) (Ev.bind (a := plusS x.f0 x.f1 y.f0 y.f1) (both (plus_m rmake_ev)) (Ev.neg (by simp) ?_))))
  refine Ev.step (fun k => hushlaw1_RatioReckons.j2.eq_2 _ _ _ _ _ k) (Ev.neg (by simp) (Ev.bind (minus_ev _ _ _ _) (Ev.bind (a := minusS x.f0 x.f1 y.f0 y.f1) (both (minus_m rmake_ev)) (Ev.neg (by simp) ?_))))
  exact Ev.step (fun k => hushlaw1_RatioReckons.j3.eq_2 _ _ _ _ _ k) (Ev.neg (by simp) (Ev.bind (order_ev _ _ _ _) (Ev.bind (rorder_ev a0 a1 b0 b1) (Ev.pos rfl (Ev.eq (Ev.ret _) (by simp))))))
end Go.Proofs.Ytnlkacmkakgaoaa.Pure

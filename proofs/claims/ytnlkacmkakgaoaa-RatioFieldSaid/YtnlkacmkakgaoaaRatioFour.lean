/- Times, Over, Plus, Minus of the program and of the reference come to the same. Conditions: in the theorems. -/
import Derived.Test.YtnlkacmkakgaoaaPBx4
import Derived.Test.YtnlkacmkakgaoaaPBx5
import Derived.Test.YtnlkacmkakgaoaaPBx4
import Derived.Test.YtnlkacmkakgaoaaPBx5
import Derived.Test.YtnlkacmkakgaoaaRatioSpec
namespace Go.Proofs.Ytnlkacmkakgaoaa.RatioSpec
set_option linter.unusedVariables false
open Go.RowKit Go.Proofs.Ytnlkacmkakgaoaa.PB Go.Proofs.YtnlkacmkakgaoaaW.PrintWords Go.Proofs.YtnlkacmkakgaoaaW.PrintLast Go.Proofs.YtnlkacmkakgaoaaW.PrintMore Go.Proofs.YtnlkacmkakgaoaaW.EvKit

theorem right4 {a0 a1 b0 b1 : Int} (h : rightS a0 a1 = true) (h' : rightS b0 b1 = true) :
    (0 ≤ a0 * b0 ∧ a0 * b0 ≤ 1152921504606846976) ∧ (0 ≤ a1 * b1 ∧ a1 * b1 ≤ 1152921504606846976) ∧ (0 ≤ a0 * b1 ∧ a0 * b1 ≤ 1152921504606846976) ∧ (0 ≤ b0 * a1 ∧ b0 * a1 ≤ 1152921504606846976) := by
  obtain ⟨p1, p2, p3, p4, _⟩ := rightS_iff.1 h
  obtain ⟨q1, q2, q3, q4, _⟩ := rightS_iff.1 h'
  exact ⟨mul_bd p1 p3 q1 q3, mul_bd (by omega) p4 (by omega) q4, mul_bd p1 p3 (by omega) q4, mul_bd q1 q3 (by omega) p4⟩

theorem times_m {m : Nat → Int → Int → Option (Int × Int × Int)} {a0 a1 b0 b1 : Int} (hm : ∀ {u d : Int}, (-9223372036854775808 ≤ u ∧ u ≤ 9223372036854775807) → (-9223372036854775808 ≤ d ∧ d ≤ 9223372036854775807) → Ev (fun k => m k u d) (makeS u d))
    (h : rightS a0 a1 = true) (h' : rightS b0 b1 = true) : Ev (fun k => m k (wrap64 (a0 * b0)) (wrap64 (a1 * b1))) (makeS (a0 * b0) (a1 * b1)) := by
  obtain ⟨k1, k2, k3, k4⟩ := right4 h h'
  rw [wrap64_of (by omega) (by omega), wrap64_of (by omega) (by omega)]
  exact hm (by omega) (by omega)
theorem over_m {m : Nat → Int → Int → Option (Int × Int × Int)} {a0 a1 b0 b1 : Int} (hm : ∀ {u d : Int}, (-9223372036854775808 ≤ u ∧ u ≤ 9223372036854775807) → (-9223372036854775808 ≤ d ∧ d ≤ 9223372036854775807) → Ev (fun k => m k u d) (makeS u d))
    (h : rightS a0 a1 = true) (h' : rightS b0 b1 = true) : Ev (fun k => m k (wrap64 (a0 * b1)) (wrap64 (a1 * b0))) (makeS (a0 * b1) (a1 * b0)) := by
  obtain ⟨k1, k2, k3, k4⟩ := right4 h h'
  rw [Int.mul_comm b0 a1] at k4
  rw [wrap64_of (by omega) (by omega), wrap64_of (by omega) (by omega)]
  exact hm (by omega) (by omega)
theorem plus_m {m : Nat → Int → Int → Option (Int × Int × Int)} {a0 a1 b0 b1 : Int} (hm : ∀ {u d : Int}, (-9223372036854775808 ≤ u ∧ u ≤ 9223372036854775807) → (-9223372036854775808 ≤ d ∧ d ≤ 9223372036854775807) → Ev (fun k => m k u d) (makeS u d))
    (h : rightS a0 a1 = true) (h' : rightS b0 b1 = true) : Ev (fun k => m k (wrap64 ((wrap64 (a0 * b1)) + (wrap64 (b0 * a1)))) (wrap64 (a1 * b1))) (makeS (a0 * b1 + b0 * a1) (a1 * b1)) := by
  obtain ⟨k1, k2, k3, k4⟩ := right4 h h'
  rw [wrap64_of (x := a0 * b1) (by omega) (by omega), wrap64_of (x := b0 * a1) (by omega) (by omega), wrap64_of (x := a1 * b1) (by omega) (by omega), wrap64_of (by omega) (by omega)]
  exact hm (by omega) (by omega)
theorem minus_m {m : Nat → Int → Int → Option (Int × Int × Int)} {a0 a1 b0 b1 : Int} (hm : ∀ {u d : Int}, (-9223372036854775808 ≤ u ∧ u ≤ 9223372036854775807) → (-9223372036854775808 ≤ d ∧ d ≤ 9223372036854775807) → Ev (fun k => m k u d) (makeS u d))
    (h : rightS a0 a1 = true) (h' : rightS b0 b1 = true) : Ev (fun k => m k (wrap64 ((wrap64 (a0 * b1)) - (wrap64 (b0 * a1)))) (wrap64 (a1 * b1))) (makeS (a0 * b1 - b0 * a1) (a1 * b1)) := by
  obtain ⟨k1, k2, k3, k4⟩ := right4 h h'
  rw [wrap64_of (x := a0 * b1) (by omega) (by omega), wrap64_of (x := b0 * a1) (by omega) (by omega), wrap64_of (x := a1 * b1) (by omega) (by omega), wrap64_of (by omega) (by omega)]
  exact hm (by omega) (by omega)

theorem times_ev (a0 a1 b0 b1 : Int) : Ev (fun k => ratio_Times.f k a0 a1 b0 b1) (timesS a0 a1 b0 b1) := both_ev (R := ratio_Right.f) right_ev (times_m make_ev)
theorem over_ev (a0 a1 b0 b1 : Int) : Ev (fun k => ratio_Over.f k a0 a1 b0 b1) (overS a0 a1 b0 b1) := both_ev (R := ratio_Right.f) right_ev (over_m make_ev)
theorem plus_ev (a0 a1 b0 b1 : Int) : Ev (fun k => ratio_Plus.f k a0 a1 b0 b1) (plusS a0 a1 b0 b1) := both_ev (R := ratio_Right.f) right_ev (plus_m make_ev)
theorem minus_ev (a0 a1 b0 b1 : Int) : Ev (fun k => ratio_Minus.f k a0 a1 b0 b1) (minusS a0 a1 b0 b1) := both_ev (R := ratio_Right.f) right_ev (minus_m make_ev)

end Go.Proofs.Ytnlkacmkakgaoaa.RatioSpec

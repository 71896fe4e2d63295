/- The functions of the printed module 4 behind all rounds, and their equations. Conditions: none. -/
import Derived.Test.YtnlkacmkakgaoaaPBx4
import Derived.Test.YtnlkacmkakgaoaaLim
import Derived.Test.YtnlkacmkakgaoaaFBx0
import Derived.Test.YtnlkacmkakgaoaaFBx1
import Derived.Test.YtnlkacmkakgaoaaFBx2
import Derived.Test.YtnlkacmkakgaoaaFBx3
namespace Go.Proofs.Ytnlkacmkakgaoaa.PB
open Go.RowKit Go.Proofs.YtnlkacmkakgaoaaW.PrintWords Go.Proofs.YtnlkacmkakgaoaaW.PrintLast Go.Proofs.YtnlkacmkakgaoaaW.PrintMore
open Go.Proofs.YtnlkacmkakgaoaaW.EvKit
set_option linter.unusedVariables false

noncomputable def hushlaw1_alive.F : Option (Bool) := lim (fun k => hushlaw1_alive.f k)
theorem hushlaw1_alive.F_is : LimIs (fun k => hushlaw1_alive.f k) (hushlaw1_alive.F) := ⟨fun k => hushlaw1_alive.mono k, rfl⟩
noncomputable def ratio_Right.F (a0_0 : Int) (a0_1 : Int) : Option (Bool) := lim (fun k => ratio_Right.f k a0_0 a0_1)
theorem ratio_Right.F_is (a0_0 : Int) (a0_1 : Int) : LimIs (fun k => ratio_Right.f k a0_0 a0_1) (ratio_Right.F a0_0 a0_1) := ⟨fun k => ratio_Right.mono a0_0 a0_1 k, rfl⟩
noncomputable def ratio_Times.F (a0 : Int) (a1 : Int) (b0 : Int) (b1 : Int) : Option (Int × Int × Int) := lim (fun k => ratio_Times.f k a0 a1 b0 b1)
theorem ratio_Times.F_is (a0 : Int) (a1 : Int) (b0 : Int) (b1 : Int) : LimIs (fun k => ratio_Times.f k a0 a1 b0 b1) (ratio_Times.F a0 a1 b0 b1) := ⟨fun k => ratio_Times.mono a0 a1 b0 b1 k, rfl⟩
noncomputable def ratio_Plus.F (a0 : Int) (a1 : Int) (b0 : Int) (b1 : Int) : Option (Int × Int × Int) := lim (fun k => ratio_Plus.f k a0 a1 b0 b1)
theorem ratio_Plus.F_is (a0 : Int) (a1 : Int) (b0 : Int) (b1 : Int) : LimIs (fun k => ratio_Plus.f k a0 a1 b0 b1) (ratio_Plus.F a0 a1 b0 b1) := ⟨fun k => ratio_Plus.mono a0 a1 b0 b1 k, rfl⟩
noncomputable def hushlaw1_two.F (a0 : Bool) (a1_0 : Int) (a1_1 : Int) (a2_0 : Int) (a2_1 : Int) : Option (Int × Int × Bool) := lim (fun k => hushlaw1_two.f k a0 a1_0 a1_1 a2_0 a2_1)
theorem hushlaw1_two.F_is (a0 : Bool) (a1_0 : Int) (a1_1 : Int) (a2_0 : Int) (a2_1 : Int) : LimIs (fun k => hushlaw1_two.f k a0 a1_0 a1_1 a2_0 a2_1) (hushlaw1_two.F a0 a1_0 a1_1 a2_0 a2_1) := ⟨fun k => hushlaw1_two.mono a0 a1_0 a1_1 a2_0 a2_1 k, rfl⟩
set_option maxRecDepth 100000 in
theorem hushlaw1_alive.F_eq : hushlaw1_alive.F = (ratio_Make.F 2 4).bind fun bt104 => (if bt104.2.2 = 0 then (some (bt104.1 == 1 && (bt104.2.1 == 2))) else (some false)) := by
  refine LimIs.out (?_ : LimIs (fun k => (ratio_Make.f k 2 4).bind fun bt104 => (if bt104.2.2 = 0 then (some (bt104.1 == 1 && (bt104.2.1 == 2))) else (some false))) _)
  repeat' first
    | (with_reducible exact ratio_Make.F_is _ _)
    | (with_reducible exact LimIs.const _)
    | (with_reducible refine LimIs.ite ?_ ?_)
    | (with_reducible refine LimIs.bind ?_ (fun _ => ?_))
    | exact ratio_Make.F_is _ _
    | exact LimIs.const _
    | refine LimIs.ite ?_ ?_
    | refine LimIs.bind ?_ (fun _ => ?_)
set_option maxRecDepth 100000 in
theorem ratio_Right.F_eq (a0_0 : Int) (a0_1 : Int) : ratio_Right.F a0_0 a0_1 = if a0_0 ≥ 0 then (if a0_1 ≥ 1 then (if a0_0 ≤ 1073741824 then (if a0_1 ≤ 1073741824 then ((ratio_gcd.F a0_0 a0_1).bind fun t109 => (some (t109 == 1))) else (some false)) else (some false)) else (some false)) else (some false) := by
  refine LimIs.out (?_ : LimIs (fun k => if a0_0 ≥ 0 then (if a0_1 ≥ 1 then (if a0_0 ≤ 1073741824 then (if a0_1 ≤ 1073741824 then ((ratio_gcd.f k a0_0 a0_1).bind fun t109 => (some (t109 == 1))) else (some false)) else (some false)) else (some false)) else (some false)) _)
  repeat' first
    | (with_reducible exact ratio_gcd.F_is _ _)
    | (with_reducible exact LimIs.const _)
    | (with_reducible refine LimIs.ite ?_ ?_)
    | (with_reducible refine LimIs.bind ?_ (fun _ => ?_))
    | exact ratio_gcd.F_is _ _
    | exact LimIs.const _
    | refine LimIs.ite ?_ ?_
    | refine LimIs.bind ?_ (fun _ => ?_)
set_option maxRecDepth 100000 in
theorem ratio_Times.F_eq (a0 : Int) (a1 : Int) (b0 : Int) (b1 : Int) : ratio_Times.F a0 a1 b0 b1 = (ratio_Right.F a0 a1).bind fun t => (if t = true then ((ratio_Right.F b0 b1).bind fun u => (if u = true then (ratio_Make.F (wrap64 (a0 * b0)) (wrap64 (a1 * b1))) else (some (0, 0, 2)))) else (some (0, 0, 2))) := by
  refine LimIs.out (?_ : LimIs (fun k => (ratio_Right.f k a0 a1).bind fun t => (if t = true then ((ratio_Right.f k b0 b1).bind fun u => (if u = true then (ratio_Make.f k (wrap64 (a0 * b0)) (wrap64 (a1 * b1))) else (some (0, 0, 2)))) else (some (0, 0, 2)))) _)
  repeat' first
    | (with_reducible exact ratio_Right.F_is _ _)
    | (with_reducible exact ratio_Make.F_is _ _)
    | (with_reducible exact LimIs.const _)
    | (with_reducible refine LimIs.ite ?_ ?_)
    | (with_reducible refine LimIs.bind ?_ (fun _ => ?_))
    | exact ratio_Right.F_is _ _
    | exact ratio_Make.F_is _ _
    | exact LimIs.const _
    | refine LimIs.ite ?_ ?_
    | refine LimIs.bind ?_ (fun _ => ?_)
set_option maxRecDepth 100000 in
theorem ratio_Plus.F_eq (a0 : Int) (a1 : Int) (b0 : Int) (b1 : Int) : ratio_Plus.F a0 a1 b0 b1 = (ratio_Right.F a0 a1).bind fun t => (if t = true then ((ratio_Right.F b0 b1).bind fun u => (if u = true then (ratio_Make.F (wrap64 ((wrap64 (a0 * b1)) + (wrap64 (b0 * a1)))) (wrap64 (a1 * b1))) else (some (0, 0, 2)))) else (some (0, 0, 2))) := by
  refine LimIs.out (?_ : LimIs (fun k => (ratio_Right.f k a0 a1).bind fun t => (if t = true then ((ratio_Right.f k b0 b1).bind fun u => (if u = true then (ratio_Make.f k (wrap64 ((wrap64 (a0 * b1)) + (wrap64 (b0 * a1)))) (wrap64 (a1 * b1))) else (some (0, 0, 2)))) else (some (0, 0, 2)))) _)
  repeat' first
    | (with_reducible exact ratio_Right.F_is _ _)
    | (with_reducible exact ratio_Make.F_is _ _)
    | (with_reducible exact LimIs.const _)
    | (with_reducible refine LimIs.ite ?_ ?_)
    | (with_reducible refine LimIs.bind ?_ (fun _ => ?_))
    | exact ratio_Right.F_is _ _
    | exact ratio_Make.F_is _ _
    | exact LimIs.const _
    | refine LimIs.ite ?_ ?_
    | refine LimIs.bind ?_ (fun _ => ?_)
set_option maxRecDepth 100000 in
theorem hushlaw1_two.F_eq (a0 : Bool) (a1_0 : Int) (a1_1 : Int) (a2_0 : Int) (a2_1 : Int) : hushlaw1_two.F a0 a1_0 a1_1 a2_0 a2_1 = if a0 = true then ((ratio_Plus.F a1_0 a1_1 a2_0 a2_1).bind fun bt113 => (some (bt113.1, bt113.2.1, (bt113.2.2 == 0)))) else ((ratio_Times.F a1_0 a1_1 a2_0 a2_1).bind fun bt117 => (some (bt117.1, bt117.2.1, (bt117.2.2 == 0)))) := by
  refine LimIs.out (?_ : LimIs (fun k => if a0 = true then ((ratio_Plus.f k a1_0 a1_1 a2_0 a2_1).bind fun bt113 => (some (bt113.1, bt113.2.1, (bt113.2.2 == 0)))) else ((ratio_Times.f k a1_0 a1_1 a2_0 a2_1).bind fun bt117 => (some (bt117.1, bt117.2.1, (bt117.2.2 == 0))))) _)
  repeat' first
    | (with_reducible exact ratio_Plus.F_is _ _ _ _)
    | (with_reducible exact ratio_Times.F_is _ _ _ _)
    | (with_reducible exact LimIs.const _)
    | (with_reducible refine LimIs.ite ?_ ?_)
    | (with_reducible refine LimIs.bind ?_ (fun _ => ?_))
    | exact ratio_Plus.F_is _ _ _ _
    | exact ratio_Times.F_is _ _ _ _
    | exact LimIs.const _
    | refine LimIs.ite ?_ ?_
    | refine LimIs.bind ?_ (fun _ => ?_)
end Go.Proofs.Ytnlkacmkakgaoaa.PB

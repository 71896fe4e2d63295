/- The functions of the printed module 3 behind all rounds, and their equations. Conditions: none. -/
import Derived.Test.YtnlkacmkakgaoaaPBx3
import Derived.Test.YtnlkacmkakgaoaaLim
import Derived.Test.YtnlkacmkakgaoaaFBx0
import Derived.Test.YtnlkacmkakgaoaaFBx2
namespace Go.Proofs.Ytnlkacmkakgaoaa.PB
open Go.RowKit Go.Proofs.YtnlkacmkakgaoaaW.PrintWords Go.Proofs.YtnlkacmkakgaoaaW.PrintLast Go.Proofs.YtnlkacmkakgaoaaW.PrintMore
open Go.Proofs.YtnlkacmkakgaoaaW.EvKit
set_option linter.unusedVariables false

noncomputable def ratio_Make.J0 (x0 : Int) (x1 : Int) (x13 : Bool) : Option (Int × Int × Int) := lim (fun k => ratio_Make.j0 k x0 x1 x13)
theorem ratio_Make.J0_is (x0 : Int) (x1 : Int) (x13 : Bool) : LimIs (fun k => ratio_Make.j0 k x0 x1 x13) (ratio_Make.J0 x0 x1 x13) := ⟨fun k => (ratio_Make.mono_l k) x0 x1 x13, rfl⟩
noncomputable def ratio_Make.F (a0 : Int) (a1 : Int) : Option (Int × Int × Int) := lim (fun k => ratio_Make.f k a0 a1)
theorem ratio_Make.F_is (a0 : Int) (a1 : Int) : LimIs (fun k => ratio_Make.f k a0 a1) (ratio_Make.F a0 a1) := ⟨fun k => ratio_Make.mono a0 a1 k, rfl⟩
set_option maxRecDepth 100000 in
theorem ratio_Make.J0_eq (x0 : Int) (x1 : Int) (x13 : Bool) : ratio_Make.J0 x0 x1 x13 = if x13 = true then (some (0, 0, 3)) else ((ratio_gcd.F x0 x1).bind fun t102 => (if t102 = 0 then (none) else (if (wrap64 (Int.tdiv x0 t102)) > 1073741824 then (some (0, 0, 4)) else (if (wrap64 (Int.tdiv x1 t102)) > 1073741824 then (some (0, 0, 4)) else (some (wrap64 (Int.tdiv x0 t102), wrap64 (Int.tdiv x1 t102), 0)))))) := by
  refine LimIs.step' (ratio_Make.J0_is x0 x1 x13).1 (b := fun k => if x13 = true then (some (0, 0, 3)) else ((ratio_gcd.f k x0 x1).bind fun t102 => (if t102 = 0 then (none) else (if (wrap64 (Int.tdiv x0 t102)) > 1073741824 then (some (0, 0, 4)) else (if (wrap64 (Int.tdiv x1 t102)) > 1073741824 then (some (0, 0, 4)) else (some (wrap64 (Int.tdiv x0 t102), wrap64 (Int.tdiv x1 t102), 0))))))) (fun k => by first | rfl | rw [ratio_Make.j0]) ?_
  repeat' first
    | (with_reducible exact ratio_gcd.F_is _ _)
    | (with_reducible exact LimIs.const _)
    | (with_reducible refine LimIs.ite ?_ ?_)
    | (with_reducible refine LimIs.bind ?_ (fun _ => ?_))
    | exact ratio_gcd.F_is _ _
    | exact LimIs.const _
    | refine LimIs.ite ?_ ?_
    | refine LimIs.bind ?_ (fun _ => ?_)
set_option maxRecDepth 100000 in
theorem ratio_Make.F_eq (a0 : Int) (a1 : Int) : ratio_Make.F a0 a1 = if a0 < 0 then (ratio_Make.J0 a0 a1 true) else (ratio_Make.J0 a0 a1 (decide (a1 < 1))) := by
  refine LimIs.out (?_ : LimIs (fun k => if a0 < 0 then (ratio_Make.j0 k a0 a1 true) else (ratio_Make.j0 k a0 a1 (decide (a1 < 1)))) _)
  repeat' first
    | (with_reducible exact ratio_Make.J0_is _ _ _)
    | (with_reducible exact LimIs.const _)
    | (with_reducible refine LimIs.ite ?_ ?_)
    | (with_reducible refine LimIs.bind ?_ (fun _ => ?_))
    | exact ratio_Make.J0_is _ _ _
    | exact LimIs.const _
    | refine LimIs.ite ?_ ?_
    | refine LimIs.bind ?_ (fun _ => ?_)
end Go.Proofs.Ytnlkacmkakgaoaa.PB

/- The functions of the printed module 5 behind all rounds, and their equations. Conditions: none. -/
import Derived.Test.YtnlkacmkakgaoaaPBx5
import Derived.Test.YtnlkacmkakgaoaaLim
import Derived.Test.YtnlkacmkakgaoaaFBx0
import Derived.Test.YtnlkacmkakgaoaaFBx3
import Derived.Test.YtnlkacmkakgaoaaFBx4
namespace Go.Proofs.Ytnlkacmkakgaoaa.PB
open Go.RowKit Go.Proofs.YtnlkacmkakgaoaaW.PrintWords Go.Proofs.YtnlkacmkakgaoaaW.PrintLast Go.Proofs.YtnlkacmkakgaoaaW.PrintMore
open Go.Proofs.YtnlkacmkakgaoaaW.EvKit
set_option linter.unusedVariables false

noncomputable def ratio_Over.F (a0 : Int) (a1 : Int) (b0 : Int) (b1 : Int) : Option (Int × Int × Int) := lim (fun k => ratio_Over.f k a0 a1 b0 b1)
theorem ratio_Over.F_is (a0 : Int) (a1 : Int) (b0 : Int) (b1 : Int) : LimIs (fun k => ratio_Over.f k a0 a1 b0 b1) (ratio_Over.F a0 a1 b0 b1) := ⟨fun k => ratio_Over.mono a0 a1 b0 b1 k, rfl⟩
noncomputable def ratio_Minus.F (a0 : Int) (a1 : Int) (b0 : Int) (b1 : Int) : Option (Int × Int × Int) := lim (fun k => ratio_Minus.f k a0 a1 b0 b1)
theorem ratio_Minus.F_is (a0 : Int) (a1 : Int) (b0 : Int) (b1 : Int) : LimIs (fun k => ratio_Minus.f k a0 a1 b0 b1) (ratio_Minus.F a0 a1 b0 b1) := ⟨fun k => ratio_Minus.mono a0 a1 b0 b1 k, rfl⟩
set_option maxRecDepth 100000 in
theorem ratio_Over.F_eq (a0 : Int) (a1 : Int) (b0 : Int) (b1 : Int) : ratio_Over.F a0 a1 b0 b1 = (ratio_Right.F a0 a1).bind fun t => (if t = true then ((ratio_Right.F b0 b1).bind fun u => (if u = true then (ratio_Make.F (wrap64 (a0 * b1)) (wrap64 (a1 * b0))) else (some (0, 0, 2)))) else (some (0, 0, 2))) := by
  refine LimIs.out (?_ : LimIs (fun k => (ratio_Right.f k a0 a1).bind fun t => (if t = true then ((ratio_Right.f k b0 b1).bind fun u => (if u = true then (ratio_Make.f k (wrap64 (a0 * b1)) (wrap64 (a1 * b0))) else (some (0, 0, 2)))) else (some (0, 0, 2)))) _)
  repeat' first
    | (with_reducible exact ratio_Right.F_is _ _)
    | (with_reducible exact ratio_Make.F_is _ _)
    | (with_reducible exact LimIs.const _)
    | (with_reducible refine LimIs.ite ?_ ?_)
    | (with_reducible refine LimIs.bind ?_ (fun _ => ?_))
    | exact ratio_Right.F_is _ _
    | exact ratio_Make.F_is _ _
    | exact LimIs.const _
    | refine LimIs.ite ?_ ?_
    | refine LimIs.bind ?_ (fun _ => ?_)
set_option maxRecDepth 100000 in
theorem ratio_Minus.F_eq (a0 : Int) (a1 : Int) (b0 : Int) (b1 : Int) : ratio_Minus.F a0 a1 b0 b1 = (ratio_Right.F a0 a1).bind fun t => (if t = true then ((ratio_Right.F b0 b1).bind fun u => (if u = true then (ratio_Make.F (wrap64 ((wrap64 (a0 * b1)) - (wrap64 (b0 * a1)))) (wrap64 (a1 * b1))) else (some (0, 0, 2)))) else (some (0, 0, 2))) := by
  refine LimIs.out (?_ : LimIs (fun k => (ratio_Right.f k a0 a1).bind fun t => (if t = true then ((ratio_Right.f k b0 b1).bind fun u => (if u = true then (ratio_Make.f k (wrap64 ((wrap64 (a0 * b1)) - (wrap64 (b0 * a1)))) (wrap64 (a1 * b1))) else (some (0, 0, 2)))) else (some (0, 0, 2)))) _)
  repeat' first
    | (with_reducible exact ratio_Right.F_is _ _)
    | (with_reducible exact ratio_Make.F_is _ _)
    | (with_reducible exact LimIs.const _)
    | (with_reducible refine LimIs.ite ?_ ?_)
    | (with_reducible refine LimIs.bind ?_ (fun _ => ?_))
    | exact ratio_Right.F_is _ _
    | exact ratio_Make.F_is _ _
    | exact LimIs.const _
    | refine LimIs.ite ?_ ?_
    | refine LimIs.bind ?_ (fun _ => ?_)
end Go.Proofs.Ytnlkacmkakgaoaa.PB

/- The functions of the printed module 6 behind all rounds, and their equations. Conditions: none. -/
import Derived.Test.YtjehjjpejmdfiaaPAx6
import Derived.Test.YtjehjjpejmdfiaaLim
import Derived.Test.YtjehjjpejmdfiaaFAx0
namespace Go.Proofs.Ytjehjjpejmdfiaa.PA
open Go.RowKit Go.Proofs.YtjehjjpejmdfiaaW.PrintWords Go.Proofs.YtjehjjpejmdfiaaW.PrintLast Go.Proofs.YtjehjjpejmdfiaaW.PrintMore
open Go.Proofs.YtjehjjpejmdfiaaW.EvKit
set_option linter.unusedVariables false

noncomputable def hushref12_team.J0 (x1 : Int) (x10 : Bool) : Option (Int) := lim (fun k => hushref12_team.j0 k x1 x10)
theorem hushref12_team.J0_is (x1 : Int) (x10 : Bool) : LimIs (fun k => hushref12_team.j0 k x1 x10) (hushref12_team.J0 x1 x10) := ⟨fun k => (hushref12_team.mono_l k) x1 x10, rfl⟩
noncomputable def hushref12_team.F (a0 : Int) (a1 : Int) : Option (Int) := lim (fun k => hushref12_team.f k a0 a1)
theorem hushref12_team.F_is (a0 : Int) (a1 : Int) : LimIs (fun k => hushref12_team.f k a0 a1) (hushref12_team.F a0 a1) := ⟨fun k => hushref12_team.mono a0 a1 k, rfl⟩
set_option maxRecDepth 100000 in
theorem hushref12_team.J0_eq (x1 : Int) (x10 : Bool) : hushref12_team.J0 x1 x10 = if x10 = true then (some 3) else (if x1 < 1 then (some 5) else (if x1 > 16 then (some 5) else (some 0))) := by
  refine LimIs.step' (hushref12_team.J0_is x1 x10).1 (b := fun k => if x10 = true then (some 3) else (if x1 < 1 then (some 5) else (if x1 > 16 then (some 5) else (some 0)))) (fun k => by first | rfl | rw [hushref12_team.j0]) ?_
  repeat' first
    | (with_reducible exact LimIs.const _)
    | (with_reducible refine LimIs.ite ?_ ?_)
    | (with_reducible refine LimIs.bind ?_ (fun _ => ?_))
    | exact LimIs.const _
    | refine LimIs.ite ?_ ?_
    | refine LimIs.bind ?_ (fun _ => ?_)
set_option maxRecDepth 100000 in
theorem hushref12_team.F_eq (a0 : Int) (a1 : Int) : hushref12_team.F a0 a1 = if a0 < 2 then (hushref12_team.J0 a1 true) else (hushref12_team.J0 a1 (decide (a0 > 1073741824))) := by
  refine LimIs.out (?_ : LimIs (fun k => if a0 < 2 then (hushref12_team.j0 k a1 true) else (hushref12_team.j0 k a1 (decide (a0 > 1073741824)))) _)
  repeat' first
    | (with_reducible exact hushref12_team.J0_is _ _)
    | (with_reducible exact LimIs.const _)
    | (with_reducible refine LimIs.ite ?_ ?_)
    | (with_reducible refine LimIs.bind ?_ (fun _ => ?_))
    | exact hushref12_team.J0_is _ _
    | exact LimIs.const _
    | refine LimIs.ite ?_ ?_
    | refine LimIs.bind ?_ (fun _ => ?_)
end Go.Proofs.Ytjehjjpejmdfiaa.PA

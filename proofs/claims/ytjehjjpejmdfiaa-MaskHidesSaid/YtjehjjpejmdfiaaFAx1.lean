/- The functions of the printed module 1 behind all rounds, and their equations. Conditions: none. -/
import Derived.Test.YtjehjjpejmdfiaaPAx1
import Derived.Test.YtjehjjpejmdfiaaLim
import Derived.Test.YtjehjjpejmdfiaaFAx0
namespace Go.Proofs.Ytjehjjpejmdfiaa.PA
open Go.RowKit Go.Proofs.YtjehjjpejmdfiaaW.PrintWords Go.Proofs.YtjehjjpejmdfiaaW.PrintLast Go.Proofs.YtjehjjpejmdfiaaW.PrintMore
open Go.Proofs.YtjehjjpejmdfiaaW.EvKit
set_option linter.unusedVariables false

noncomputable def mask_team.J0 (x1 : Int) (x10 : Bool) : Option (Int) := lim (fun k => mask_team.j0 k x1 x10)
theorem mask_team.J0_is (x1 : Int) (x10 : Bool) : LimIs (fun k => mask_team.j0 k x1 x10) (mask_team.J0 x1 x10) := ⟨fun k => (mask_team.mono_l k) x1 x10, rfl⟩
noncomputable def mask_team.F (a0 : Int) (a1 : Int) : Option (Int) := lim (fun k => mask_team.f k a0 a1)
theorem mask_team.F_is (a0 : Int) (a1 : Int) : LimIs (fun k => mask_team.f k a0 a1) (mask_team.F a0 a1) := ⟨fun k => mask_team.mono a0 a1 k, rfl⟩
noncomputable def mask_Mask.F (a0 : Int) (a1 : Int) (a2 : Int) (l : List Int) : Option (Int × Int) := lim (fun k => mask_Mask.f k a0 a1 a2 l)
theorem mask_Mask.F_is (a0 : Int) (a1 : Int) (a2 : Int) (l : List Int) : LimIs (fun k => mask_Mask.f k a0 a1 a2 l) (mask_Mask.F a0 a1 a2 l) := ⟨fun k => mask_Mask.mono a0 a1 a2 l k, rfl⟩
noncomputable def hushlaw12_alive.F : Option (Bool) := lim (fun k => hushlaw12_alive.f k)
theorem hushlaw12_alive.F_is : LimIs (fun k => hushlaw12_alive.f k) (hushlaw12_alive.F) := ⟨fun k => hushlaw12_alive.mono k, rfl⟩
set_option maxRecDepth 100000 in
theorem mask_team.J0_eq (x1 : Int) (x10 : Bool) : mask_team.J0 x1 x10 = if x10 = true then (some 3) else (if x1 < 1 then (some 5) else (if x1 > 16 then (some 5) else (some 0))) := by
  refine LimIs.step' (mask_team.J0_is x1 x10).1 (b := fun k => if x10 = true then (some 3) else (if x1 < 1 then (some 5) else (if x1 > 16 then (some 5) else (some 0)))) (fun k => by first | rfl | rw [mask_team.j0]) ?_
  repeat' first
    | (with_reducible exact LimIs.const _)
    | (with_reducible refine LimIs.ite ?_ ?_)
    | (with_reducible refine LimIs.bind ?_ (fun _ => ?_))
    | exact LimIs.const _
    | refine LimIs.ite ?_ ?_
    | refine LimIs.bind ?_ (fun _ => ?_)
set_option maxRecDepth 100000 in
theorem mask_team.F_eq (a0 : Int) (a1 : Int) : mask_team.F a0 a1 = if a0 < 2 then (mask_team.J0 a1 true) else (mask_team.J0 a1 (decide (a0 > 1073741824))) := by
  refine LimIs.out (?_ : LimIs (fun k => if a0 < 2 then (mask_team.j0 k a1 true) else (mask_team.j0 k a1 (decide (a0 > 1073741824)))) _)
  repeat' first
    | (with_reducible exact mask_team.J0_is _ _)
    | (with_reducible exact LimIs.const _)
    | (with_reducible refine LimIs.ite ?_ ?_)
    | (with_reducible refine LimIs.bind ?_ (fun _ => ?_))
    | exact mask_team.J0_is _ _
    | exact LimIs.const _
    | refine LimIs.ite ?_ ?_
    | refine LimIs.bind ?_ (fun _ => ?_)
set_option maxRecDepth 100000 in
theorem mask_Mask.F_eq (a0 : Int) (a1 : Int) (a2 : Int) (l : List Int) : mask_Mask.F a0 a1 a2 l = (mask_team.F a0 (l.length : Int)).bind fun t => if t = 0 then mask_Mask.rest a0 a1 a2 l else some (0, t) := by
  refine LimIs.out (?_ : LimIs (fun k => (mask_team.f k a0 (l.length : Int)).bind fun t => if t = 0 then mask_Mask.rest a0 a1 a2 l else some (0, t)) _)
  repeat' first
    | (with_reducible exact mask_team.F_is _ _)
    | (with_reducible exact LimIs.const _)
    | (with_reducible refine LimIs.ite ?_ ?_)
    | (with_reducible refine LimIs.bind ?_ (fun _ => ?_))
    | exact mask_team.F_is _ _
    | exact LimIs.const _
    | refine LimIs.ite ?_ ?_
    | refine LimIs.bind ?_ (fun _ => ?_)
set_option maxRecDepth 100000 in
theorem hushlaw12_alive.F_eq : hushlaw12_alive.F = (mask_Mask.F 7 0 5 (([0] : List Int))).bind fun bt104 => (if bt104.2 = 0 then (some (bt104.1 == 5)) else (some false)) := by
  refine LimIs.out (?_ : LimIs (fun k => (mask_Mask.f k 7 0 5 (([0] : List Int))).bind fun bt104 => (if bt104.2 = 0 then (some (bt104.1 == 5)) else (some false))) _)
  repeat' first
    | (with_reducible exact mask_Mask.F_is _ _ _ _)
    | (with_reducible exact LimIs.const _)
    | (with_reducible refine LimIs.ite ?_ ?_)
    | (with_reducible refine LimIs.bind ?_ (fun _ => ?_))
    | exact mask_Mask.F_is _ _ _ _
    | exact LimIs.const _
    | refine LimIs.ite ?_ ?_
    | refine LimIs.bind ?_ (fun _ => ?_)
end Go.Proofs.Ytjehjjpejmdfiaa.PA

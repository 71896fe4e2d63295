/- The functions of the printed module 4 behind all rounds, and their equations. Conditions: none. -/
import Derived.Test.YtjehjjpejmdfiaaPAx4
import Derived.Test.YtjehjjpejmdfiaaLim
import Derived.Test.YtjehjjpejmdfiaaFAx0
import Derived.Test.YtjehjjpejmdfiaaFAx2
namespace Go.Proofs.Ytjehjjpejmdfiaa.PA
open Go.RowKit Go.Proofs.YtjehjjpejmdfiaaW.PrintWords Go.Proofs.YtjehjjpejmdfiaaW.PrintLast Go.Proofs.YtjehjjpejmdfiaaW.PrintMore
open Go.Proofs.YtjehjjpejmdfiaaW.EvKit
set_option linter.unusedVariables false

noncomputable def hushlaw12_same.L0 (x0 : List Int) (x1 : List Int) (x2 : Int) (x9 : Int) (x10 : Int) : Option (Bool) := lim (fun k => hushlaw12_same.l0 k x0 x1 x2 x9 x10)
theorem hushlaw12_same.L0_is (x0 : List Int) (x1 : List Int) (x2 : Int) (x9 : Int) (x10 : Int) : LimIs (fun k => hushlaw12_same.l0 k x0 x1 x2 x9 x10) (hushlaw12_same.L0 x0 x1 x2 x9 x10) := ⟨fun k => (hushlaw12_same.mono_l k) x0 x1 x2 x9 x10, rfl⟩
noncomputable def hushlaw12_same.F (l0 : List Int) (l1 : List Int) (a2 : Int) : Option (Bool) := lim (fun k => hushlaw12_same.f k l0 l1 a2)
theorem hushlaw12_same.F_is (l0 : List Int) (l1 : List Int) (a2 : Int) : LimIs (fun k => hushlaw12_same.f k l0 l1 a2) (hushlaw12_same.F l0 l1 a2) := ⟨fun k => hushlaw12_same.mono l0 l1 a2 k, rfl⟩
set_option maxRecDepth 100000 in
theorem hushlaw12_same.L0_eq (x0 : List Int) (x1 : List Int) (x2 : Int) (x9 : Int) (x10 : Int) : hushlaw12_same.L0 x0 x1 x2 x9 x10 = if x10 < x9 then (if 0 ≤ x10 then (if x10 < (x0.length : Int) then (if x10 < (x1.length : Int) then ((hushref12_Mod.f (rd x1 x10) x2).bind fun t116 => (if (rd x0 x10) = t116 then (hushlaw12_same.L0 x0 x1 x2 x9 (wrap64 (x10 + 1))) else (some false))) else (none)) else (none)) else (none)) else (some true) := by
  refine LimIs.step' (hushlaw12_same.L0_is x0 x1 x2 x9 x10).1 (b := fun k => if x10 < x9 then (if 0 ≤ x10 then (if x10 < (x0.length : Int) then (if x10 < (x1.length : Int) then ((hushref12_Mod.f (rd x1 x10) x2).bind fun t116 => (if (rd x0 x10) = t116 then (hushlaw12_same.l0 k x0 x1 x2 x9 (wrap64 (x10 + 1))) else (some false))) else (none)) else (none)) else (none)) else (some true)) (fun k => by first | rfl | rw [hushlaw12_same.l0]) ?_
  repeat' first
    | (with_reducible exact hushlaw12_same.L0_is _ _ _ _ _)
    | (with_reducible exact LimIs.const _)
    | (with_reducible refine LimIs.ite ?_ ?_)
    | (with_reducible refine LimIs.bind ?_ (fun _ => ?_))
    | exact hushlaw12_same.L0_is _ _ _ _ _
    | exact LimIs.const _
    | refine LimIs.ite ?_ ?_
    | refine LimIs.bind ?_ (fun _ => ?_)
set_option maxRecDepth 100000 in
theorem hushlaw12_same.F_eq (l0 : List Int) (l1 : List Int) (a2 : Int) : hushlaw12_same.F l0 l1 a2 = hushlaw12_same.L0 l0 l1 a2 (l0.length : Int) 0 := by
  refine LimIs.out (?_ : LimIs (fun k => hushlaw12_same.l0 k l0 l1 a2 (l0.length : Int) 0) _)
  repeat' first
    | (with_reducible exact hushlaw12_same.L0_is _ _ _ _ _)
    | (with_reducible exact LimIs.const _)
    | (with_reducible refine LimIs.ite ?_ ?_)
    | (with_reducible refine LimIs.bind ?_ (fun _ => ?_))
    | exact hushlaw12_same.L0_is _ _ _ _ _
    | exact LimIs.const _
    | refine LimIs.ite ?_ ?_
    | refine LimIs.bind ?_ (fun _ => ?_)
end Go.Proofs.Ytjehjjpejmdfiaa.PA

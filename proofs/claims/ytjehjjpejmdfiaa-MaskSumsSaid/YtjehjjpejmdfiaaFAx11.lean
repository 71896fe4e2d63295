/- The functions of the printed module 11 behind all rounds, and their equations. Conditions: none. -/
import Derived.Test.YtjehjjpejmdfiaaPAx11
import Derived.Test.YtjehjjpejmdfiaaLim
import Derived.Test.YtjehjjpejmdfiaaFAx0
import Derived.Test.YtjehjjpejmdfiaaFAx1
import Derived.Test.YtjehjjpejmdfiaaFAx2
import Derived.Test.YtjehjjpejmdfiaaFAx3
import Derived.Test.YtjehjjpejmdfiaaFAx8
namespace Go.Proofs.Ytjehjjpejmdfiaa.PA
open Go.RowKit Go.Proofs.YtjehjjpejmdfiaaW.PrintWords Go.Proofs.YtjehjjpejmdfiaaW.PrintLast Go.Proofs.YtjehjjpejmdfiaaW.PrintMore
open Go.Proofs.YtjehjjpejmdfiaaW.EvKit
set_option linter.unusedVariables false

noncomputable def hushlaw12_MaskSums.J0 (x0 : Int) (x1 : List Int) (x2 : List Int) (x3 : List Bool) (x41 : Bool) : Option (Bool) := lim (fun k => hushlaw12_MaskSums.j0 k x0 x1 x2 x3 x41)
theorem hushlaw12_MaskSums.J0_is (x0 : Int) (x1 : List Int) (x2 : List Int) (x3 : List Bool) (x41 : Bool) : LimIs (fun k => hushlaw12_MaskSums.j0 k x0 x1 x2 x3 x41) (hushlaw12_MaskSums.J0 x0 x1 x2 x3 x41) := ⟨fun k => (hushlaw12_MaskSums.mono_l k).1 x0 x1 x2 x3 x41, rfl⟩
noncomputable def hushlaw12_MaskSums.L0 (x0 : Int) (x3 : List Bool) (x9 : List (List Int)) (x10 : List Int) (x12 : Int) (x56 : List Int) (x57 : Int) (x58 : Int) : Option (Bool) := lim (fun k => hushlaw12_MaskSums.l0 k x0 x3 x9 x10 x12 x56 x57 x58)
theorem hushlaw12_MaskSums.L0_is (x0 : Int) (x3 : List Bool) (x9 : List (List Int)) (x10 : List Int) (x12 : Int) (x56 : List Int) (x57 : Int) (x58 : Int) : LimIs (fun k => hushlaw12_MaskSums.l0 k x0 x3 x9 x10 x12 x56 x57 x58) (hushlaw12_MaskSums.L0 x0 x3 x9 x10 x12 x56 x57 x58) := ⟨fun k => (hushlaw12_MaskSums.mono_l k).2 x0 x3 x9 x10 x12 x56 x57 x58, rfl⟩
noncomputable def hushlaw12_MaskSums.F (a0 : Int) (l1 : List Int) (l2 : List Int) (l3 : List Bool) : Option (Bool) := lim (fun k => hushlaw12_MaskSums.f k a0 l1 l2 l3)
theorem hushlaw12_MaskSums.F_is (a0 : Int) (l1 : List Int) (l2 : List Int) (l3 : List Bool) : LimIs (fun k => hushlaw12_MaskSums.f k a0 l1 l2 l3) (hushlaw12_MaskSums.F a0 l1 l2 l3) := ⟨fun k => hushlaw12_MaskSums.mono a0 l1 l2 l3 k, rfl⟩
set_option maxRecDepth 100000 in
theorem hushlaw12_MaskSums.J0_eq (x0 : Int) (x1 : List Int) (x2 : List Int) (x3 : List Bool) (x41 : Bool) : hushlaw12_MaskSums.J0 x0 x1 x2 x3 x41 = if x41 = true then (some true) else ((hushlaw12_shares.f x0 (x1.length : Int) x2).bind fun t184 => ((hushlaw12_masks.F x0 x1 t184).bind fun bt187 => (if bt187.2 = true then (hushlaw12_MaskSums.L0 x0 x3 t184 bt187.1 0 x1 (x1.length : Int) 0) else (some false)))) := by
  refine LimIs.step' (hushlaw12_MaskSums.J0_is x0 x1 x2 x3 x41).1 (b := fun k => if x41 = true then (some true) else ((hushlaw12_shares.f x0 (x1.length : Int) x2).bind fun t184 => ((hushlaw12_masks.f k x0 x1 t184).bind fun bt187 => (if bt187.2 = true then (hushlaw12_MaskSums.l0 k x0 x3 t184 bt187.1 0 x1 (x1.length : Int) 0) else (some false))))) (fun k => by first | rfl | rw [hushlaw12_MaskSums.j0]) ?_
  repeat' first
    | (with_reducible exact hushlaw12_masks.F_is _ _ _)
    | (with_reducible exact hushlaw12_MaskSums.L0_is _ _ _ _ _ _ _ _)
    | (with_reducible exact LimIs.const _)
    | (with_reducible refine LimIs.ite ?_ ?_)
    | (with_reducible refine LimIs.bind ?_ (fun _ => ?_))
    | exact hushlaw12_masks.F_is _ _ _
    | exact hushlaw12_MaskSums.L0_is _ _ _ _ _ _ _ _
    | exact LimIs.const _
    | refine LimIs.ite ?_ ?_
    | refine LimIs.bind ?_ (fun _ => ?_)
set_option maxRecDepth 100000 in
theorem hushlaw12_MaskSums.L0_eq (x0 : Int) (x3 : List Bool) (x9 : List (List Int)) (x10 : List Int) (x12 : Int) (x56 : List Int) (x57 : Int) (x58 : Int) : hushlaw12_MaskSums.L0 x0 x3 x9 x10 x12 x56 x57 x58 = if x58 < x57 then (if 0 ≤ x58 then (if x58 < (x56.length : Int) then (if x58 < (x3.length : Int) then (if rdOf false x3 x58 = true then ((hushref12_Mod.f (rd x56 x58) x0).bind fun t195 => ((hushref12_Mod.f (wrap64 (x12 + t195)) x0).bind fun t196 => (hushlaw12_MaskSums.L0 x0 x3 x9 x10 t196 x56 x57 (wrap64 (x58 + 1))))) else (hushlaw12_MaskSums.L0 x0 x3 x9 x10 x12 x56 x57 (wrap64 (x58 + 1)))) else (none)) else (none)) else (none)) else ((mask_Sum.F x0 x10 x3 x9).bind fun bt191 => (if bt191.2 = 0 then (some (bt191.1 == x12)) else (some false))) := by
  refine LimIs.step' (hushlaw12_MaskSums.L0_is x0 x3 x9 x10 x12 x56 x57 x58).1 (b := fun k => if x58 < x57 then (if 0 ≤ x58 then (if x58 < (x56.length : Int) then (if x58 < (x3.length : Int) then (if rdOf false x3 x58 = true then ((hushref12_Mod.f (rd x56 x58) x0).bind fun t195 => ((hushref12_Mod.f (wrap64 (x12 + t195)) x0).bind fun t196 => (hushlaw12_MaskSums.l0 k x0 x3 x9 x10 t196 x56 x57 (wrap64 (x58 + 1))))) else (hushlaw12_MaskSums.l0 k x0 x3 x9 x10 x12 x56 x57 (wrap64 (x58 + 1)))) else (none)) else (none)) else (none)) else ((mask_Sum.f k x0 x10 x3 x9).bind fun bt191 => (if bt191.2 = 0 then (some (bt191.1 == x12)) else (some false)))) (fun k => by first | rfl | rw [hushlaw12_MaskSums.l0]) ?_
  repeat' first
    | (with_reducible exact hushlaw12_MaskSums.L0_is _ _ _ _ _ _ _ _)
    | (with_reducible exact mask_Sum.F_is _ _ _ _)
    | (with_reducible exact LimIs.const _)
    | (with_reducible refine LimIs.ite ?_ ?_)
    | (with_reducible refine LimIs.bind ?_ (fun _ => ?_))
    | exact hushlaw12_MaskSums.L0_is _ _ _ _ _ _ _ _
    | exact mask_Sum.F_is _ _ _ _
    | exact LimIs.const _
    | refine LimIs.ite ?_ ?_
    | refine LimIs.bind ?_ (fun _ => ?_)
set_option maxRecDepth 100000 in
theorem hushlaw12_MaskSums.F_eq (a0 : Int) (l1 : List Int) (l2 : List Int) (l3 : List Bool) : hushlaw12_MaskSums.F a0 l1 l2 l3 = (hushlaw12_alive.F).bind fun t183 => (if t183 = true then (if a0 < 2 then (hushlaw12_MaskSums.J0 a0 l1 l2 l3 true) else (if a0 > 1073741824 then (hushlaw12_MaskSums.J0 a0 l1 l2 l3 true) else (if (l1.length : Int) < 1 then (hushlaw12_MaskSums.J0 a0 l1 l2 l3 true) else (if (l1.length : Int) > 16 then (hushlaw12_MaskSums.J0 a0 l1 l2 l3 true) else (hushlaw12_MaskSums.J0 a0 l1 l2 l3 ((l3.length : Int) != (l1.length : Int))))))) else (some false)) := by
  refine LimIs.out (?_ : LimIs (fun k => (hushlaw12_alive.f k).bind fun t183 => (if t183 = true then (if a0 < 2 then (hushlaw12_MaskSums.j0 k a0 l1 l2 l3 true) else (if a0 > 1073741824 then (hushlaw12_MaskSums.j0 k a0 l1 l2 l3 true) else (if (l1.length : Int) < 1 then (hushlaw12_MaskSums.j0 k a0 l1 l2 l3 true) else (if (l1.length : Int) > 16 then (hushlaw12_MaskSums.j0 k a0 l1 l2 l3 true) else (hushlaw12_MaskSums.j0 k a0 l1 l2 l3 ((l3.length : Int) != (l1.length : Int))))))) else (some false))) _)
  repeat' first
    | (with_reducible exact hushlaw12_alive.F_is)
    | (with_reducible exact hushlaw12_MaskSums.J0_is _ _ _ _ _)
    | (with_reducible exact LimIs.const _)
    | (with_reducible refine LimIs.ite ?_ ?_)
    | (with_reducible refine LimIs.bind ?_ (fun _ => ?_))
    | exact hushlaw12_alive.F_is
    | exact hushlaw12_MaskSums.J0_is _ _ _ _ _
    | exact LimIs.const _
    | refine LimIs.ite ?_ ?_
    | refine LimIs.bind ?_ (fun _ => ?_)
end Go.Proofs.Ytjehjjpejmdfiaa.PA

/- The functions of the printed module 3 behind all rounds, and their equations. Conditions: none. -/
import Derived.Test.YtjehjjpejmdfiaaPAx3
import Derived.Test.YtjehjjpejmdfiaaLim
import Derived.Test.YtjehjjpejmdfiaaFAx0
import Derived.Test.YtjehjjpejmdfiaaFAx1
import Derived.Test.YtjehjjpejmdfiaaFAx2
namespace Go.Proofs.Ytjehjjpejmdfiaa.PA
open Go.RowKit Go.Proofs.YtjehjjpejmdfiaaW.PrintWords Go.Proofs.YtjehjjpejmdfiaaW.PrintLast Go.Proofs.YtjehjjpejmdfiaaW.PrintMore
open Go.Proofs.YtjehjjpejmdfiaaW.EvKit
set_option linter.unusedVariables false

noncomputable def hushlaw12_masks.L0 (x0 : Int) (x2 : List (List Int)) (x8 : List Int) (x13 : List Int) (x14 : Int) (x15 : Int) : Option (List Int × Bool) := lim (fun k => hushlaw12_masks.l0 k x0 x2 x8 x13 x14 x15)
theorem hushlaw12_masks.L0_is (x0 : Int) (x2 : List (List Int)) (x8 : List Int) (x13 : List Int) (x14 : Int) (x15 : Int) : LimIs (fun k => hushlaw12_masks.l0 k x0 x2 x8 x13 x14 x15) (hushlaw12_masks.L0 x0 x2 x8 x13 x14 x15) := ⟨fun k => (hushlaw12_masks.mono_l k) x0 x2 x8 x13 x14 x15, rfl⟩
noncomputable def hushlaw12_masks.F (a0 : Int) (l1 : List Int) (l2 : List (List Int)) : Option (List Int × Bool) := lim (fun k => hushlaw12_masks.f k a0 l1 l2)
theorem hushlaw12_masks.F_is (a0 : Int) (l1 : List Int) (l2 : List (List Int)) : LimIs (fun k => hushlaw12_masks.f k a0 l1 l2) (hushlaw12_masks.F a0 l1 l2) := ⟨fun k => hushlaw12_masks.mono a0 l1 l2 k, rfl⟩
set_option maxRecDepth 100000 in
theorem hushlaw12_masks.L0_eq (x0 : Int) (x2 : List (List Int)) (x8 : List Int) (x13 : List Int) (x14 : Int) (x15 : Int) : hushlaw12_masks.L0 x0 x2 x8 x13 x14 x15 = if x15 < x14 then (if 0 ≤ x15 then (if x15 < (x13.length : Int) then ((hushref12_Mod.f (rd x13 x15) x0).bind fun t107 => (if x15 < (x2.length : Int) then ((mask_Mask.F x0 x15 t107 (rd_L1 x2 x15)).bind fun bt109 => (if bt109.2 = 0 then (if x8.length < 17592186044416 then (hushlaw12_masks.L0 x0 x2 (x8 ++ [bt109.1]) x13 x14 (wrap64 (x15 + 1))) else (none)) else (some (([] : List Int), false)))) else (none))) else (none)) else (none)) else (some (x8, true)) := by
  refine LimIs.step' (hushlaw12_masks.L0_is x0 x2 x8 x13 x14 x15).1 (b := fun k => if x15 < x14 then (if 0 ≤ x15 then (if x15 < (x13.length : Int) then ((hushref12_Mod.f (rd x13 x15) x0).bind fun t107 => (if x15 < (x2.length : Int) then ((mask_Mask.f k x0 x15 t107 (rd_L1 x2 x15)).bind fun bt109 => (if bt109.2 = 0 then (if x8.length < 17592186044416 then (hushlaw12_masks.l0 k x0 x2 (x8 ++ [bt109.1]) x13 x14 (wrap64 (x15 + 1))) else (none)) else (some (([] : List Int), false)))) else (none))) else (none)) else (none)) else (some (x8, true))) (fun k => by first | rfl | rw [hushlaw12_masks.l0]) ?_
  repeat' first
    | (with_reducible exact mask_Mask.F_is _ _ _ _)
    | (with_reducible exact hushlaw12_masks.L0_is _ _ _ _ _ _)
    | (with_reducible exact LimIs.const _)
    | (with_reducible refine LimIs.ite ?_ ?_)
    | (with_reducible refine LimIs.bind ?_ (fun _ => ?_))
    | exact mask_Mask.F_is _ _ _ _
    | exact hushlaw12_masks.L0_is _ _ _ _ _ _
    | exact LimIs.const _
    | refine LimIs.ite ?_ ?_
    | refine LimIs.bind ?_ (fun _ => ?_)
set_option maxRecDepth 100000 in
theorem hushlaw12_masks.F_eq (a0 : Int) (l1 : List Int) (l2 : List (List Int)) : hushlaw12_masks.F a0 l1 l2 = hushlaw12_masks.L0 a0 l2 ([] : List Int) l1 (l1.length : Int) 0 := by
  refine LimIs.out (?_ : LimIs (fun k => hushlaw12_masks.l0 k a0 l2 ([] : List Int) l1 (l1.length : Int) 0) _)
  repeat' first
    | (with_reducible exact hushlaw12_masks.L0_is _ _ _ _ _ _)
    | (with_reducible exact LimIs.const _)
    | (with_reducible refine LimIs.ite ?_ ?_)
    | (with_reducible refine LimIs.bind ?_ (fun _ => ?_))
    | exact hushlaw12_masks.L0_is _ _ _ _ _ _
    | exact LimIs.const _
    | refine LimIs.ite ?_ ?_
    | refine LimIs.bind ?_ (fun _ => ?_)
end Go.Proofs.Ytjehjjpejmdfiaa.PA

/- The functions of the printed module 10 behind all rounds, and their equations. Conditions: none. -/
import Derived.Test.YtjehjjpejmdfiaaPAx10
import Derived.Test.YtjehjjpejmdfiaaLim
import Derived.Test.YtjehjjpejmdfiaaFAx0
import Derived.Test.YtjehjjpejmdfiaaFAx1
import Derived.Test.YtjehjjpejmdfiaaFAx7
import Derived.Test.YtjehjjpejmdfiaaFAx8
import Derived.Test.YtjehjjpejmdfiaaFAx9
namespace Go.Proofs.Ytjehjjpejmdfiaa.PA
open Go.RowKit Go.Proofs.YtjehjjpejmdfiaaW.PrintWords Go.Proofs.YtjehjjpejmdfiaaW.PrintLast Go.Proofs.YtjehjjpejmdfiaaW.PrintMore
open Go.Proofs.YtjehjjpejmdfiaaW.EvKit
set_option linter.unusedVariables false

noncomputable def hushlaw12_MaskSays.J0 (x0 : Int) (x4 : List Int) (x5 : List Bool) (x6 : List (List Int)) (x42 : Bool) : Option (Bool) := lim (fun k => hushlaw12_MaskSays.j0 k x0 x4 x5 x6 x42)
theorem hushlaw12_MaskSays.J0_is (x0 : Int) (x4 : List Int) (x5 : List Bool) (x6 : List (List Int)) (x42 : Bool) : LimIs (fun k => hushlaw12_MaskSays.j0 k x0 x4 x5 x6 x42) (hushlaw12_MaskSays.J0 x0 x4 x5 x6 x42) := ⟨fun k => (hushlaw12_MaskSays.mono_l k) x0 x4 x5 x6 x42, rfl⟩
noncomputable def hushlaw12_MaskSays.F (a0 : Int) (a1 : Int) (a2 : Int) (l3 : List Int) (l4 : List Int) (l5 : List Bool) (l6 : List (List Int)) : Option (Bool) := lim (fun k => hushlaw12_MaskSays.f k a0 a1 a2 l3 l4 l5 l6)
theorem hushlaw12_MaskSays.F_is (a0 : Int) (a1 : Int) (a2 : Int) (l3 : List Int) (l4 : List Int) (l5 : List Bool) (l6 : List (List Int)) : LimIs (fun k => hushlaw12_MaskSays.f k a0 a1 a2 l3 l4 l5 l6) (hushlaw12_MaskSays.F a0 a1 a2 l3 l4 l5 l6) := ⟨fun k => hushlaw12_MaskSays.mono a0 a1 a2 l3 l4 l5 l6 k, rfl⟩
set_option maxRecDepth 100000 in
theorem hushlaw12_MaskSays.J0_eq (x0 : Int) (x4 : List Int) (x5 : List Bool) (x6 : List (List Int)) (x42 : Bool) : hushlaw12_MaskSays.J0 x0 x4 x5 x6 x42 = if x42 = true then (some false) else ((mask_Sum.F x0 x4 x5 x6).bind fun bt179 => ((hushref12_Sum.F x0 x4 x5 x6).bind fun bt181 => (if bt179.1 = bt181.1 then (some (bt179.2 == bt181.2)) else (some false)))) := by
  refine LimIs.step' (hushlaw12_MaskSays.J0_is x0 x4 x5 x6 x42).1 (b := fun k => if x42 = true then (some false) else ((mask_Sum.f k x0 x4 x5 x6).bind fun bt179 => ((hushref12_Sum.f k x0 x4 x5 x6).bind fun bt181 => (if bt179.1 = bt181.1 then (some (bt179.2 == bt181.2)) else (some false))))) (fun k => by first | rfl | rw [hushlaw12_MaskSays.j0]) ?_
  repeat' first
    | (with_reducible exact mask_Sum.F_is _ _ _ _)
    | (with_reducible exact hushref12_Sum.F_is _ _ _ _)
    | (with_reducible exact LimIs.const _)
    | (with_reducible refine LimIs.ite ?_ ?_)
    | (with_reducible refine LimIs.bind ?_ (fun _ => ?_))
    | exact mask_Sum.F_is _ _ _ _
    | exact hushref12_Sum.F_is _ _ _ _
    | exact LimIs.const _
    | refine LimIs.ite ?_ ?_
    | refine LimIs.bind ?_ (fun _ => ?_)
set_option maxRecDepth 100000 in
theorem hushlaw12_MaskSays.F_eq (a0 : Int) (a1 : Int) (a2 : Int) (l3 : List Int) (l4 : List Int) (l5 : List Bool) (l6 : List (List Int)) : hushlaw12_MaskSays.F a0 a1 a2 l3 l4 l5 l6 = (mask_Mask.F a0 a1 a2 l3).bind fun bt175 => ((hushref12_Mask.F a0 a1 a2 l3).bind fun bt177 => (if bt175.1 = bt177.1 then (hushlaw12_MaskSays.J0 a0 l4 l5 l6 (bt175.2 != bt177.2)) else (hushlaw12_MaskSays.J0 a0 l4 l5 l6 true))) := by
  refine LimIs.out (?_ : LimIs (fun k => (mask_Mask.f k a0 a1 a2 l3).bind fun bt175 => ((hushref12_Mask.f k a0 a1 a2 l3).bind fun bt177 => (if bt175.1 = bt177.1 then (hushlaw12_MaskSays.j0 k a0 l4 l5 l6 (bt175.2 != bt177.2)) else (hushlaw12_MaskSays.j0 k a0 l4 l5 l6 true)))) _)
  repeat' first
    | (with_reducible exact mask_Mask.F_is _ _ _ _)
    | (with_reducible exact hushref12_Mask.F_is _ _ _ _)
    | (with_reducible exact hushlaw12_MaskSays.J0_is _ _ _ _ _)
    | (with_reducible exact LimIs.const _)
    | (with_reducible refine LimIs.ite ?_ ?_)
    | (with_reducible refine LimIs.bind ?_ (fun _ => ?_))
    | exact mask_Mask.F_is _ _ _ _
    | exact hushref12_Mask.F_is _ _ _ _
    | exact hushlaw12_MaskSays.J0_is _ _ _ _ _
    | exact LimIs.const _
    | refine LimIs.ite ?_ ?_
    | refine LimIs.bind ?_ (fun _ => ?_)
end Go.Proofs.Ytjehjjpejmdfiaa.PA

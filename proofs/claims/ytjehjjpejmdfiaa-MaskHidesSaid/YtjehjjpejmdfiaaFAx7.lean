/- The functions of the printed module 7 behind all rounds, and their equations. Conditions: none. -/
import Derived.Test.YtjehjjpejmdfiaaPAx7
import Derived.Test.YtjehjjpejmdfiaaLim
import Derived.Test.YtjehjjpejmdfiaaFAx0
import Derived.Test.YtjehjjpejmdfiaaFAx2
import Derived.Test.YtjehjjpejmdfiaaFAx6
namespace Go.Proofs.Ytjehjjpejmdfiaa.PA
open Go.RowKit Go.Proofs.YtjehjjpejmdfiaaW.PrintWords Go.Proofs.YtjehjjpejmdfiaaW.PrintLast Go.Proofs.YtjehjjpejmdfiaaW.PrintMore
open Go.Proofs.YtjehjjpejmdfiaaW.EvKit
set_option linter.unusedVariables false

noncomputable def hushref12_Mask.J0 (x0 : Int) (x1 : Int) (x2 : Int) (x3 : List Int) (x38 : Bool) : Option (Int × Int) := lim (fun k => hushref12_Mask.j0 k x0 x1 x2 x3 x38)
theorem hushref12_Mask.J0_is (x0 : Int) (x1 : Int) (x2 : Int) (x3 : List Int) (x38 : Bool) : LimIs (fun k => hushref12_Mask.j0 k x0 x1 x2 x3 x38) (hushref12_Mask.J0 x0 x1 x2 x3 x38) := ⟨fun k => (hushref12_Mask.mono_l k).1 x0 x1 x2 x3 x38, rfl⟩
noncomputable def hushref12_Mask.L0 (x0 : Int) (x1 : Int) (x2 : Int) (x3 : List Int) (x39 : List Int) (x40 : Int) (x41 : Int) : Option (Int × Int) := lim (fun k => hushref12_Mask.l0 k x0 x1 x2 x3 x39 x40 x41)
theorem hushref12_Mask.L0_is (x0 : Int) (x1 : Int) (x2 : Int) (x3 : List Int) (x39 : List Int) (x40 : Int) (x41 : Int) : LimIs (fun k => hushref12_Mask.l0 k x0 x1 x2 x3 x39 x40 x41) (hushref12_Mask.L0 x0 x1 x2 x3 x39 x40 x41) := ⟨fun k => (hushref12_Mask.mono_l k).2.1 x0 x1 x2 x3 x39 x40 x41, rfl⟩
noncomputable def hushref12_Mask.L1 (x0 : Int) (x1 : Int) (x2 : Int) (x3 : List Int) (x13 : Int) : Option (Int × Int) := lim (fun k => hushref12_Mask.l1 k x0 x1 x2 x3 x13)
theorem hushref12_Mask.L1_is (x0 : Int) (x1 : Int) (x2 : Int) (x3 : List Int) (x13 : Int) : LimIs (fun k => hushref12_Mask.l1 k x0 x1 x2 x3 x13) (hushref12_Mask.L1 x0 x1 x2 x3 x13) := ⟨fun k => (hushref12_Mask.mono_l k).2.2.1 x0 x1 x2 x3 x13, rfl⟩
noncomputable def hushref12_Mask.L2 (x0 : Int) (x2 : Int) (x3 : List Int) (x14 : Int) : Option (Int × Int) := lim (fun k => hushref12_Mask.l2 k x0 x2 x3 x14)
theorem hushref12_Mask.L2_is (x0 : Int) (x2 : Int) (x3 : List Int) (x14 : Int) : LimIs (fun k => hushref12_Mask.l2 k x0 x2 x3 x14) (hushref12_Mask.L2 x0 x2 x3 x14) := ⟨fun k => (hushref12_Mask.mono_l k).2.2.2 x0 x2 x3 x14, rfl⟩
noncomputable def hushref12_Mask.F (a0 : Int) (a1 : Int) (a2 : Int) (l3 : List Int) : Option (Int × Int) := lim (fun k => hushref12_Mask.f k a0 a1 a2 l3)
theorem hushref12_Mask.F_is (a0 : Int) (a1 : Int) (a2 : Int) (l3 : List Int) : LimIs (fun k => hushref12_Mask.f k a0 a1 a2 l3) (hushref12_Mask.F a0 a1 a2 l3) := ⟨fun k => hushref12_Mask.mono a0 a1 a2 l3 k, rfl⟩
set_option maxRecDepth 100000 in
theorem hushref12_Mask.J0_eq (x0 : Int) (x1 : Int) (x2 : Int) (x3 : List Int) (x38 : Bool) : hushref12_Mask.J0 x0 x1 x2 x3 x38 = if x38 = true then (some (0, 3)) else (hushref12_Mask.L0 x0 x1 x2 x3 x3 (x3.length : Int) 0) := by
  refine LimIs.step' (hushref12_Mask.J0_is x0 x1 x2 x3 x38).1 (b := fun k => if x38 = true then (some (0, 3)) else (hushref12_Mask.l0 k x0 x1 x2 x3 x3 (x3.length : Int) 0)) (fun k => by first | rfl | rw [hushref12_Mask.j0]) ?_
  repeat' first
    | (with_reducible exact hushref12_Mask.L0_is _ _ _ _ _ _ _)
    | (with_reducible exact LimIs.const _)
    | (with_reducible refine LimIs.ite ?_ ?_)
    | (with_reducible refine LimIs.bind ?_ (fun _ => ?_))
    | exact hushref12_Mask.L0_is _ _ _ _ _ _ _
    | exact LimIs.const _
    | refine LimIs.ite ?_ ?_
    | refine LimIs.bind ?_ (fun _ => ?_)
set_option maxRecDepth 100000 in
theorem hushref12_Mask.L0_eq (x0 : Int) (x1 : Int) (x2 : Int) (x3 : List Int) (x39 : List Int) (x40 : Int) (x41 : Int) : hushref12_Mask.L0 x0 x1 x2 x3 x39 x40 x41 = if x41 < x40 then (if 0 ≤ x41 then (if x41 < (x39.length : Int) then (if (rd x39 x41) < 0 then (some (0, 3)) else (if (rd x39 x41) ≥ x0 then (some (0, 3)) else (hushref12_Mask.L0 x0 x1 x2 x3 x39 x40 (wrap64 (x41 + 1))))) else (none)) else (none)) else (hushref12_Mask.L1 x0 x1 x2 x3 0) := by
  refine LimIs.step' (hushref12_Mask.L0_is x0 x1 x2 x3 x39 x40 x41).1 (b := fun k => if x41 < x40 then (if 0 ≤ x41 then (if x41 < (x39.length : Int) then (if (rd x39 x41) < 0 then (some (0, 3)) else (if (rd x39 x41) ≥ x0 then (some (0, 3)) else (hushref12_Mask.l0 k x0 x1 x2 x3 x39 x40 (wrap64 (x41 + 1))))) else (none)) else (none)) else (hushref12_Mask.l1 k x0 x1 x2 x3 0)) (fun k => by first | rfl | rw [hushref12_Mask.l0]) ?_
  repeat' first
    | (with_reducible exact hushref12_Mask.L0_is _ _ _ _ _ _ _)
    | (with_reducible exact hushref12_Mask.L1_is _ _ _ _ _)
    | (with_reducible exact LimIs.const _)
    | (with_reducible refine LimIs.ite ?_ ?_)
    | (with_reducible refine LimIs.bind ?_ (fun _ => ?_))
    | exact hushref12_Mask.L0_is _ _ _ _ _ _ _
    | exact hushref12_Mask.L1_is _ _ _ _ _
    | exact LimIs.const _
    | refine LimIs.ite ?_ ?_
    | refine LimIs.bind ?_ (fun _ => ?_)
set_option maxRecDepth 100000 in
theorem hushref12_Mask.L1_eq (x0 : Int) (x1 : Int) (x2 : Int) (x3 : List Int) (x13 : Int) : hushref12_Mask.L1 x0 x1 x2 x3 x13 = if x13 < x1 then (if 0 ≤ x13 then (if x13 < (x3.length : Int) then ((hushref12_Mod.f (wrap64 (x2 - (rd x3 x13))) x0).bind fun t144 => (hushref12_Mask.L1 x0 x1 t144 x3 (wrap64 (x13 + 1)))) else (none)) else (none)) else (hushref12_Mask.L2 x0 x2 x3 (wrap64 (x1 + 1))) := by
  refine LimIs.step' (hushref12_Mask.L1_is x0 x1 x2 x3 x13).1 (b := fun k => if x13 < x1 then (if 0 ≤ x13 then (if x13 < (x3.length : Int) then ((hushref12_Mod.f (wrap64 (x2 - (rd x3 x13))) x0).bind fun t144 => (hushref12_Mask.l1 k x0 x1 t144 x3 (wrap64 (x13 + 1)))) else (none)) else (none)) else (hushref12_Mask.l2 k x0 x2 x3 (wrap64 (x1 + 1)))) (fun k => by first | rfl | rw [hushref12_Mask.l1]) ?_
  repeat' first
    | (with_reducible exact hushref12_Mask.L1_is _ _ _ _ _)
    | (with_reducible exact hushref12_Mask.L2_is _ _ _ _)
    | (with_reducible exact LimIs.const _)
    | (with_reducible refine LimIs.ite ?_ ?_)
    | (with_reducible refine LimIs.bind ?_ (fun _ => ?_))
    | exact hushref12_Mask.L1_is _ _ _ _ _
    | exact hushref12_Mask.L2_is _ _ _ _
    | exact LimIs.const _
    | refine LimIs.ite ?_ ?_
    | refine LimIs.bind ?_ (fun _ => ?_)
set_option maxRecDepth 100000 in
theorem hushref12_Mask.L2_eq (x0 : Int) (x2 : Int) (x3 : List Int) (x14 : Int) : hushref12_Mask.L2 x0 x2 x3 x14 = if x14 < (x3.length : Int) then (if 0 ≤ x14 then ((hushref12_Mod.f (wrap64 (x2 + (rd x3 x14))) x0).bind fun t146 => (hushref12_Mask.L2 x0 t146 x3 (wrap64 (x14 + 1)))) else (none)) else (some (x2, 0)) := by
  refine LimIs.step' (hushref12_Mask.L2_is x0 x2 x3 x14).1 (b := fun k => if x14 < (x3.length : Int) then (if 0 ≤ x14 then ((hushref12_Mod.f (wrap64 (x2 + (rd x3 x14))) x0).bind fun t146 => (hushref12_Mask.l2 k x0 t146 x3 (wrap64 (x14 + 1)))) else (none)) else (some (x2, 0))) (fun k => by first | rfl | rw [hushref12_Mask.l2]) ?_
  repeat' first
    | (with_reducible exact hushref12_Mask.L2_is _ _ _ _)
    | (with_reducible exact LimIs.const _)
    | (with_reducible refine LimIs.ite ?_ ?_)
    | (with_reducible refine LimIs.bind ?_ (fun _ => ?_))
    | exact hushref12_Mask.L2_is _ _ _ _
    | exact LimIs.const _
    | refine LimIs.ite ?_ ?_
    | refine LimIs.bind ?_ (fun _ => ?_)
set_option maxRecDepth 100000 in
theorem hushref12_Mask.F_eq (a0 : Int) (a1 : Int) (a2 : Int) (l3 : List Int) : hushref12_Mask.F a0 a1 a2 l3 = (hushref12_team.F a0 (l3.length : Int)).bind fun t141 => (if t141 = 0 then (if a1 < 0 then (hushref12_Mask.J0 a0 a1 a2 l3 true) else (if a1 ≥ (l3.length : Int) then (hushref12_Mask.J0 a0 a1 a2 l3 true) else (if a2 < 0 then (hushref12_Mask.J0 a0 a1 a2 l3 true) else (hushref12_Mask.J0 a0 a1 a2 l3 (decide (a2 ≥ a0)))))) else (some (0, t141))) := by
  refine LimIs.out (?_ : LimIs (fun k => (hushref12_team.f k a0 (l3.length : Int)).bind fun t141 => (if t141 = 0 then (if a1 < 0 then (hushref12_Mask.j0 k a0 a1 a2 l3 true) else (if a1 ≥ (l3.length : Int) then (hushref12_Mask.j0 k a0 a1 a2 l3 true) else (if a2 < 0 then (hushref12_Mask.j0 k a0 a1 a2 l3 true) else (hushref12_Mask.j0 k a0 a1 a2 l3 (decide (a2 ≥ a0)))))) else (some (0, t141)))) _)
  repeat' first
    | (with_reducible exact hushref12_team.F_is _ _)
    | (with_reducible exact hushref12_Mask.J0_is _ _ _ _ _)
    | (with_reducible exact LimIs.const _)
    | (with_reducible refine LimIs.ite ?_ ?_)
    | (with_reducible refine LimIs.bind ?_ (fun _ => ?_))
    | exact hushref12_team.F_is _ _
    | exact hushref12_Mask.J0_is _ _ _ _ _
    | exact LimIs.const _
    | refine LimIs.ite ?_ ?_
    | refine LimIs.bind ?_ (fun _ => ?_)
end Go.Proofs.Ytjehjjpejmdfiaa.PA

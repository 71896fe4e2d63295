/- The functions of the printed module 8 behind all rounds, and their equations. Conditions: none. -/
import Derived.Test.YtjehjjpejmdfiaaPAx8
import Derived.Test.YtjehjjpejmdfiaaLim
import Derived.Test.YtjehjjpejmdfiaaFAx0
import Derived.Test.YtjehjjpejmdfiaaFAx1
namespace Go.Proofs.Ytjehjjpejmdfiaa.PA
open Go.RowKit Go.Proofs.YtjehjjpejmdfiaaW.PrintWords Go.Proofs.YtjehjjpejmdfiaaW.PrintLast Go.Proofs.YtjehjjpejmdfiaaW.PrintMore
open Go.Proofs.YtjehjjpejmdfiaaW.EvKit
set_option linter.unusedVariables false

noncomputable def mask_Sum.J0 (x0 : Int) (x1 : List Int) (x2 : List Bool) (x3 : List (List Int)) (x35 : Bool) : Option (Int × Int) := lim (fun k => mask_Sum.j0 k x0 x1 x2 x3 x35)
theorem mask_Sum.J0_is (x0 : Int) (x1 : List Int) (x2 : List Bool) (x3 : List (List Int)) (x35 : Bool) : LimIs (fun k => mask_Sum.j0 k x0 x1 x2 x3 x35) (mask_Sum.J0 x0 x1 x2 x3 x35) := ⟨fun k => (mask_Sum.mono_l k).1 x0 x1 x2 x3 x35, rfl⟩
noncomputable def mask_Sum.L0 (x1 : List Int) (x2 : List Bool) (x3 : List (List Int)) (x11 : Int) (x12 : Int) (x37 : List Int) (x38 : Int) (x39 : Int) : Option (Int × Int) := lim (fun k => mask_Sum.l0 k x1 x2 x3 x11 x12 x37 x38 x39)
theorem mask_Sum.L0_is (x1 : List Int) (x2 : List Bool) (x3 : List (List Int)) (x11 : Int) (x12 : Int) (x37 : List Int) (x38 : Int) (x39 : Int) : LimIs (fun k => mask_Sum.l0 k x1 x2 x3 x11 x12 x37 x38 x39) (mask_Sum.L0 x1 x2 x3 x11 x12 x37 x38 x39) := ⟨fun k => (mask_Sum.mono_l k).2.1 x1 x2 x3 x11 x12 x37 x38 x39, rfl⟩
noncomputable def mask_Sum.L1 (x1 : List Int) (x2 : List Bool) (x3 : List (List Int)) (x11 : Int) (x12 : Int) (x13 : Int) (x37 : List Int) (x38 : Int) (x39 : Int) (x67 : List Int) (x68 : Int) (x69 : Int) : Option (Int × Int) := lim (fun k => mask_Sum.l1 k x1 x2 x3 x11 x12 x13 x37 x38 x39 x67 x68 x69)
theorem mask_Sum.L1_is (x1 : List Int) (x2 : List Bool) (x3 : List (List Int)) (x11 : Int) (x12 : Int) (x13 : Int) (x37 : List Int) (x38 : Int) (x39 : Int) (x67 : List Int) (x68 : Int) (x69 : Int) : LimIs (fun k => mask_Sum.l1 k x1 x2 x3 x11 x12 x13 x37 x38 x39 x67 x68 x69) (mask_Sum.L1 x1 x2 x3 x11 x12 x13 x37 x38 x39 x67 x68 x69) := ⟨fun k => (mask_Sum.mono_l k).2.2.1 x1 x2 x3 x11 x12 x13 x37 x38 x39 x67 x68 x69, rfl⟩
noncomputable def mask_Sum.J3 (x1 : List Int) (x2 : List Bool) (x3 : List (List Int)) (x11 : Int) (x12 : Int) (x13 : Int) (x15 : Int) (x16 : Int) (x37 : List Int) (x38 : Int) (x39 : Int) (x67 : List Int) (x68 : Int) (x69 : Int) (x82 : Bool) : Option (Int × Int) := lim (fun k => mask_Sum.j3 k x1 x2 x3 x11 x12 x13 x15 x16 x37 x38 x39 x67 x68 x69 x82)
theorem mask_Sum.J3_is (x1 : List Int) (x2 : List Bool) (x3 : List (List Int)) (x11 : Int) (x12 : Int) (x13 : Int) (x15 : Int) (x16 : Int) (x37 : List Int) (x38 : Int) (x39 : Int) (x67 : List Int) (x68 : Int) (x69 : Int) (x82 : Bool) : LimIs (fun k => mask_Sum.j3 k x1 x2 x3 x11 x12 x13 x15 x16 x37 x38 x39 x67 x68 x69 x82) (mask_Sum.J3 x1 x2 x3 x11 x12 x13 x15 x16 x37 x38 x39 x67 x68 x69 x82) := ⟨fun k => (mask_Sum.mono_l k).2.2.2 x1 x2 x3 x11 x12 x13 x15 x16 x37 x38 x39 x67 x68 x69 x82, rfl⟩
noncomputable def mask_Sum.F (a0 : Int) (l1 : List Int) (l2 : List Bool) (l3 : List (List Int)) : Option (Int × Int) := lim (fun k => mask_Sum.f k a0 l1 l2 l3)
theorem mask_Sum.F_is (a0 : Int) (l1 : List Int) (l2 : List Bool) (l3 : List (List Int)) : LimIs (fun k => mask_Sum.f k a0 l1 l2 l3) (mask_Sum.F a0 l1 l2 l3) := ⟨fun k => mask_Sum.mono a0 l1 l2 l3 k, rfl⟩
set_option maxRecDepth 100000 in
theorem mask_Sum.J0_eq (x0 : Int) (x1 : List Int) (x2 : List Bool) (x3 : List (List Int)) (x35 : Bool) : mask_Sum.J0 x0 x1 x2 x3 x35 = if x35 = true then (some (0, 8)) else (mask_Sum.L0 x1 x2 x3 x0 0 x1 (x1.length : Int) 0) := by
  refine LimIs.step' (mask_Sum.J0_is x0 x1 x2 x3 x35).1 (b := fun k => if x35 = true then (some (0, 8)) else (mask_Sum.l0 k x1 x2 x3 x0 0 x1 (x1.length : Int) 0)) (fun k => by first | rfl | rw [mask_Sum.j0]) ?_
  repeat' first
    | (with_reducible exact mask_Sum.L0_is _ _ _ _ _ _ _ _)
    | (with_reducible exact LimIs.const _)
    | (with_reducible refine LimIs.ite ?_ ?_)
    | (with_reducible refine LimIs.bind ?_ (fun _ => ?_))
    | exact mask_Sum.L0_is _ _ _ _ _ _ _ _
    | exact LimIs.const _
    | refine LimIs.ite ?_ ?_
    | refine LimIs.bind ?_ (fun _ => ?_)
set_option maxRecDepth 100000 in
theorem mask_Sum.L0_eq (x1 : List Int) (x2 : List Bool) (x3 : List (List Int)) (x11 : Int) (x12 : Int) (x37 : List Int) (x38 : Int) (x39 : Int) : mask_Sum.L0 x1 x2 x3 x11 x12 x37 x38 x39 = if x39 < x38 then (if 0 ≤ x39 then (if x39 < (x37.length : Int) then (if x39 < (x2.length : Int) then (if rdOf false x2 x39 = true then (if x39 < (x3.length : Int) then (if ((rd_L1 x3 x39).length : Int) = (x1.length : Int) then ((mask_ring_holds.f x11 (rd x37 x39)).bind fun t152 => (if t152 = true then (mask_Sum.L1 x1 x2 x3 x11 (wrap64 (x12 + (rd x37 x39))) x39 x37 x38 x39 (rd_L1 x3 x39) ((rd_L1 x3 x39).length : Int) 0) else (some (0, 3)))) else (some (0, 8))) else (none)) else (mask_Sum.L0 x1 x2 x3 x11 x12 x37 x38 (wrap64 (x39 + 1)))) else (none)) else (none)) else (none)) else ((mask_ring_mod.f x11 x12).bind fun t148 => (some (t148, 0))) := by
  refine LimIs.step' (mask_Sum.L0_is x1 x2 x3 x11 x12 x37 x38 x39).1 (b := fun k => if x39 < x38 then (if 0 ≤ x39 then (if x39 < (x37.length : Int) then (if x39 < (x2.length : Int) then (if rdOf false x2 x39 = true then (if x39 < (x3.length : Int) then (if ((rd_L1 x3 x39).length : Int) = (x1.length : Int) then ((mask_ring_holds.f x11 (rd x37 x39)).bind fun t152 => (if t152 = true then (mask_Sum.l1 k x1 x2 x3 x11 (wrap64 (x12 + (rd x37 x39))) x39 x37 x38 x39 (rd_L1 x3 x39) ((rd_L1 x3 x39).length : Int) 0) else (some (0, 3)))) else (some (0, 8))) else (none)) else (mask_Sum.l0 k x1 x2 x3 x11 x12 x37 x38 (wrap64 (x39 + 1)))) else (none)) else (none)) else (none)) else ((mask_ring_mod.f x11 x12).bind fun t148 => (some (t148, 0)))) (fun k => by first | rfl | rw [mask_Sum.l0]) ?_
  repeat' first
    | (with_reducible exact mask_Sum.L1_is _ _ _ _ _ _ _ _ _ _ _ _)
    | (with_reducible exact mask_Sum.L0_is _ _ _ _ _ _ _ _)
    | (with_reducible exact LimIs.const _)
    | (with_reducible refine LimIs.ite ?_ ?_)
    | (with_reducible refine LimIs.bind ?_ (fun _ => ?_))
    | exact mask_Sum.L1_is _ _ _ _ _ _ _ _ _ _ _ _
    | exact mask_Sum.L0_is _ _ _ _ _ _ _ _
    | exact LimIs.const _
    | refine LimIs.ite ?_ ?_
    | refine LimIs.bind ?_ (fun _ => ?_)
set_option maxRecDepth 100000 in
theorem mask_Sum.L1_eq (x1 : List Int) (x2 : List Bool) (x3 : List (List Int)) (x11 : Int) (x12 : Int) (x13 : Int) (x37 : List Int) (x38 : Int) (x39 : Int) (x67 : List Int) (x68 : Int) (x69 : Int) : mask_Sum.L1 x1 x2 x3 x11 x12 x13 x37 x38 x39 x67 x68 x69 = if x69 < x68 then (if 0 ≤ x69 then (if x69 < (x67.length : Int) then (if x69 < (x2.length : Int) then (if rdOf false x2 x69 = true then (mask_Sum.J3 x1 x2 x3 x11 x12 x13 x69 (rd x67 x69) x37 x38 x39 x67 x68 x69 true) else (mask_Sum.J3 x1 x2 x3 x11 x12 x13 x69 (rd x67 x69) x37 x38 x39 x67 x68 x69 (x69 == x13))) else (none)) else (none)) else (none)) else (mask_Sum.L0 x1 x2 x3 x11 x12 x37 x38 (wrap64 (x39 + 1))) := by
  refine LimIs.step' (mask_Sum.L1_is x1 x2 x3 x11 x12 x13 x37 x38 x39 x67 x68 x69).1 (b := fun k => if x69 < x68 then (if 0 ≤ x69 then (if x69 < (x67.length : Int) then (if x69 < (x2.length : Int) then (if rdOf false x2 x69 = true then (mask_Sum.j3 k x1 x2 x3 x11 x12 x13 x69 (rd x67 x69) x37 x38 x39 x67 x68 x69 true) else (mask_Sum.j3 k x1 x2 x3 x11 x12 x13 x69 (rd x67 x69) x37 x38 x39 x67 x68 x69 (x69 == x13))) else (none)) else (none)) else (none)) else (mask_Sum.l0 k x1 x2 x3 x11 x12 x37 x38 (wrap64 (x39 + 1)))) (fun k => by first | rfl | rw [mask_Sum.l1]) ?_
  repeat' first
    | (with_reducible exact mask_Sum.J3_is _ _ _ _ _ _ _ _ _ _ _ _ _ _ _)
    | (with_reducible exact mask_Sum.L0_is _ _ _ _ _ _ _ _)
    | (with_reducible exact LimIs.const _)
    | (with_reducible refine LimIs.ite ?_ ?_)
    | (with_reducible refine LimIs.bind ?_ (fun _ => ?_))
    | exact mask_Sum.J3_is _ _ _ _ _ _ _ _ _ _ _ _ _ _ _
    | exact mask_Sum.L0_is _ _ _ _ _ _ _ _
    | exact LimIs.const _
    | refine LimIs.ite ?_ ?_
    | refine LimIs.bind ?_ (fun _ => ?_)
set_option maxRecDepth 100000 in
theorem mask_Sum.J3_eq (x1 : List Int) (x2 : List Bool) (x3 : List (List Int)) (x11 : Int) (x12 : Int) (x13 : Int) (x15 : Int) (x16 : Int) (x37 : List Int) (x38 : Int) (x39 : Int) (x67 : List Int) (x68 : Int) (x69 : Int) (x82 : Bool) : mask_Sum.J3 x1 x2 x3 x11 x12 x13 x15 x16 x37 x38 x39 x67 x68 x69 x82 = if x82 = true then (mask_Sum.L1 x1 x2 x3 x11 x12 x13 x37 x38 x39 x67 x68 (wrap64 (x69 + 1))) else ((mask_ring_holds.f x11 x16).bind fun t156 => (if t156 = true then (if x15 > x13 then (mask_Sum.L1 x1 x2 x3 x11 (wrap64 (x12 - x16)) x13 x37 x38 x39 x67 x68 (wrap64 (x69 + 1))) else (mask_Sum.L1 x1 x2 x3 x11 (wrap64 (x12 + x16)) x13 x37 x38 x39 x67 x68 (wrap64 (x69 + 1)))) else (some (0, 3)))) := by
  refine LimIs.step' (mask_Sum.J3_is x1 x2 x3 x11 x12 x13 x15 x16 x37 x38 x39 x67 x68 x69 x82).1 (b := fun k => if x82 = true then (mask_Sum.l1 k x1 x2 x3 x11 x12 x13 x37 x38 x39 x67 x68 (wrap64 (x69 + 1))) else ((mask_ring_holds.f x11 x16).bind fun t156 => (if t156 = true then (if x15 > x13 then (mask_Sum.l1 k x1 x2 x3 x11 (wrap64 (x12 - x16)) x13 x37 x38 x39 x67 x68 (wrap64 (x69 + 1))) else (mask_Sum.l1 k x1 x2 x3 x11 (wrap64 (x12 + x16)) x13 x37 x38 x39 x67 x68 (wrap64 (x69 + 1)))) else (some (0, 3))))) (fun k => by first | rfl | rw [mask_Sum.j3]) ?_
  repeat' first
    | (with_reducible exact mask_Sum.L1_is _ _ _ _ _ _ _ _ _ _ _ _)
    | (with_reducible exact LimIs.const _)
    | (with_reducible refine LimIs.ite ?_ ?_)
    | (with_reducible refine LimIs.bind ?_ (fun _ => ?_))
    | exact mask_Sum.L1_is _ _ _ _ _ _ _ _ _ _ _ _
    | exact LimIs.const _
    | refine LimIs.ite ?_ ?_
    | refine LimIs.bind ?_ (fun _ => ?_)
set_option maxRecDepth 100000 in
theorem mask_Sum.F_eq (a0 : Int) (l1 : List Int) (l2 : List Bool) (l3 : List (List Int)) : mask_Sum.F a0 l1 l2 l3 = (mask_team.F a0 (l1.length : Int)).bind fun t147 => (if t147 = 0 then (if (l2.length : Int) = (l1.length : Int) then (mask_Sum.J0 a0 l1 l2 l3 ((l3.length : Int) != (l1.length : Int))) else (mask_Sum.J0 a0 l1 l2 l3 true)) else (some (0, t147))) := by
  refine LimIs.out (?_ : LimIs (fun k => (mask_team.f k a0 (l1.length : Int)).bind fun t147 => (if t147 = 0 then (if (l2.length : Int) = (l1.length : Int) then (mask_Sum.j0 k a0 l1 l2 l3 ((l3.length : Int) != (l1.length : Int))) else (mask_Sum.j0 k a0 l1 l2 l3 true)) else (some (0, t147)))) _)
  repeat' first
    | (with_reducible exact mask_team.F_is _ _)
    | (with_reducible exact mask_Sum.J0_is _ _ _ _ _)
    | (with_reducible exact LimIs.const _)
    | (with_reducible refine LimIs.ite ?_ ?_)
    | (with_reducible refine LimIs.bind ?_ (fun _ => ?_))
    | exact mask_team.F_is _ _
    | exact mask_Sum.J0_is _ _ _ _ _
    | exact LimIs.const _
    | refine LimIs.ite ?_ ?_
    | refine LimIs.bind ?_ (fun _ => ?_)
end Go.Proofs.Ytjehjjpejmdfiaa.PA

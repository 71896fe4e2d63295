/- The functions of the printed module 9 behind all rounds, and their equations. Conditions: none. -/
import Derived.Test.YtjehjjpejmdfiaaPAx9
import Derived.Test.YtjehjjpejmdfiaaLim
import Derived.Test.YtjehjjpejmdfiaaFAx0
import Derived.Test.YtjehjjpejmdfiaaFAx2
import Derived.Test.YtjehjjpejmdfiaaFAx6
namespace Go.Proofs.Ytjehjjpejmdfiaa.PA
open Go.RowKit Go.Proofs.YtjehjjpejmdfiaaW.PrintWords Go.Proofs.YtjehjjpejmdfiaaW.PrintLast Go.Proofs.YtjehjjpejmdfiaaW.PrintMore
open Go.Proofs.YtjehjjpejmdfiaaW.EvKit
set_option linter.unusedVariables false

noncomputable def hushref12_Sum.J0 (x0 : Int) (x1 : List Int) (x2 : List Bool) (x3 : List (List Int)) (x32 : Bool) : Option (Int × Int) := lim (fun k => hushref12_Sum.j0 k x0 x1 x2 x3 x32)
theorem hushref12_Sum.J0_is (x0 : Int) (x1 : List Int) (x2 : List Bool) (x3 : List (List Int)) (x32 : Bool) : LimIs (fun k => hushref12_Sum.j0 k x0 x1 x2 x3 x32) (hushref12_Sum.J0 x0 x1 x2 x3 x32) := ⟨fun k => (hushref12_Sum.mono_l k).1 x0 x1 x2 x3 x32, rfl⟩
noncomputable def hushref12_Sum.L0 (x0 : Int) (x1 : List Int) (x2 : List Bool) (x3 : List (List Int)) (x11 : Int) (x34 : Int) (x35 : Int) : Option (Int × Int) := lim (fun k => hushref12_Sum.l0 k x0 x1 x2 x3 x11 x34 x35)
theorem hushref12_Sum.L0_is (x0 : Int) (x1 : List Int) (x2 : List Bool) (x3 : List (List Int)) (x11 : Int) (x34 : Int) (x35 : Int) : LimIs (fun k => hushref12_Sum.l0 k x0 x1 x2 x3 x11 x34 x35) (hushref12_Sum.L0 x0 x1 x2 x3 x11 x34 x35) := ⟨fun k => (hushref12_Sum.mono_l k).2.1 x0 x1 x2 x3 x11 x34 x35, rfl⟩
noncomputable def hushref12_Sum.J2 (x0 : Int) (x1 : List Int) (x2 : List Bool) (x3 : List (List Int)) (x11 : Int) (x12 : Int) (x34 : Int) (x35 : Int) (x63 : Bool) : Option (Int × Int) := lim (fun k => hushref12_Sum.j2 k x0 x1 x2 x3 x11 x12 x34 x35 x63)
theorem hushref12_Sum.J2_is (x0 : Int) (x1 : List Int) (x2 : List Bool) (x3 : List (List Int)) (x11 : Int) (x12 : Int) (x34 : Int) (x35 : Int) (x63 : Bool) : LimIs (fun k => hushref12_Sum.j2 k x0 x1 x2 x3 x11 x12 x34 x35 x63) (hushref12_Sum.J2 x0 x1 x2 x3 x11 x12 x34 x35 x63) := ⟨fun k => (hushref12_Sum.mono_l k).2.2.1 x0 x1 x2 x3 x11 x12 x34 x35 x63, rfl⟩
noncomputable def hushref12_Sum.L1 (x0 : Int) (x1 : List Int) (x2 : List Bool) (x3 : List (List Int)) (x11 : Int) (x12 : Int) (x34 : Int) (x35 : Int) (x73 : Int) (x74 : Int) : Option (Int × Int) := lim (fun k => hushref12_Sum.l1 k x0 x1 x2 x3 x11 x12 x34 x35 x73 x74)
theorem hushref12_Sum.L1_is (x0 : Int) (x1 : List Int) (x2 : List Bool) (x3 : List (List Int)) (x11 : Int) (x12 : Int) (x34 : Int) (x35 : Int) (x73 : Int) (x74 : Int) : LimIs (fun k => hushref12_Sum.l1 k x0 x1 x2 x3 x11 x12 x34 x35 x73 x74) (hushref12_Sum.L1 x0 x1 x2 x3 x11 x12 x34 x35 x73 x74) := ⟨fun k => (hushref12_Sum.mono_l k).2.2.2.1 x0 x1 x2 x3 x11 x12 x34 x35 x73 x74, rfl⟩
noncomputable def hushref12_Sum.J4 (x0 : Int) (x1 : List Int) (x2 : List Bool) (x3 : List (List Int)) (x11 : Int) (x12 : Int) (x13 : Int) (x34 : Int) (x35 : Int) (x73 : Int) (x74 : Int) (x85 : Bool) : Option (Int × Int) := lim (fun k => hushref12_Sum.j4 k x0 x1 x2 x3 x11 x12 x13 x34 x35 x73 x74 x85)
theorem hushref12_Sum.J4_is (x0 : Int) (x1 : List Int) (x2 : List Bool) (x3 : List (List Int)) (x11 : Int) (x12 : Int) (x13 : Int) (x34 : Int) (x35 : Int) (x73 : Int) (x74 : Int) (x85 : Bool) : LimIs (fun k => hushref12_Sum.j4 k x0 x1 x2 x3 x11 x12 x13 x34 x35 x73 x74 x85) (hushref12_Sum.J4 x0 x1 x2 x3 x11 x12 x13 x34 x35 x73 x74 x85) := ⟨fun k => (hushref12_Sum.mono_l k).2.2.2.2.1 x0 x1 x2 x3 x11 x12 x13 x34 x35 x73 x74 x85, rfl⟩
noncomputable def hushref12_Sum.J5 (x0 : Int) (x1 : List Int) (x2 : List Bool) (x3 : List (List Int)) (x11 : Int) (x12 : Int) (x13 : Int) (x34 : Int) (x35 : Int) (x73 : Int) (x74 : Int) (x104 : Bool) : Option (Int × Int) := lim (fun k => hushref12_Sum.j5 k x0 x1 x2 x3 x11 x12 x13 x34 x35 x73 x74 x104)
theorem hushref12_Sum.J5_is (x0 : Int) (x1 : List Int) (x2 : List Bool) (x3 : List (List Int)) (x11 : Int) (x12 : Int) (x13 : Int) (x34 : Int) (x35 : Int) (x73 : Int) (x74 : Int) (x104 : Bool) : LimIs (fun k => hushref12_Sum.j5 k x0 x1 x2 x3 x11 x12 x13 x34 x35 x73 x74 x104) (hushref12_Sum.J5 x0 x1 x2 x3 x11 x12 x13 x34 x35 x73 x74 x104) := ⟨fun k => (hushref12_Sum.mono_l k).2.2.2.2.2 x0 x1 x2 x3 x11 x12 x13 x34 x35 x73 x74 x104, rfl⟩
noncomputable def hushref12_Sum.F (a0 : Int) (l1 : List Int) (l2 : List Bool) (l3 : List (List Int)) : Option (Int × Int) := lim (fun k => hushref12_Sum.f k a0 l1 l2 l3)
theorem hushref12_Sum.F_is (a0 : Int) (l1 : List Int) (l2 : List Bool) (l3 : List (List Int)) : LimIs (fun k => hushref12_Sum.f k a0 l1 l2 l3) (hushref12_Sum.F a0 l1 l2 l3) := ⟨fun k => hushref12_Sum.mono a0 l1 l2 l3 k, rfl⟩
set_option maxRecDepth 100000 in
theorem hushref12_Sum.J0_eq (x0 : Int) (x1 : List Int) (x2 : List Bool) (x3 : List (List Int)) (x32 : Bool) : hushref12_Sum.J0 x0 x1 x2 x3 x32 = if x32 = true then (some (0, 8)) else (hushref12_Sum.L0 x0 x1 x2 x3 0 (x1.length : Int) 0) := by
  refine LimIs.step' (hushref12_Sum.J0_is x0 x1 x2 x3 x32).1 (b := fun k => if x32 = true then (some (0, 8)) else (hushref12_Sum.l0 k x0 x1 x2 x3 0 (x1.length : Int) 0)) (fun k => by first | rfl | rw [hushref12_Sum.j0]) ?_
  repeat' first
    | (with_reducible exact hushref12_Sum.L0_is _ _ _ _ _ _ _)
    | (with_reducible exact LimIs.const _)
    | (with_reducible refine LimIs.ite ?_ ?_)
    | (with_reducible refine LimIs.bind ?_ (fun _ => ?_))
    | exact hushref12_Sum.L0_is _ _ _ _ _ _ _
    | exact LimIs.const _
    | refine LimIs.ite ?_ ?_
    | refine LimIs.bind ?_ (fun _ => ?_)
set_option maxRecDepth 100000 in
theorem hushref12_Sum.L0_eq (x0 : Int) (x1 : List Int) (x2 : List Bool) (x3 : List (List Int)) (x11 : Int) (x34 : Int) (x35 : Int) : hushref12_Sum.L0 x0 x1 x2 x3 x11 x34 x35 = if x35 < x34 then (if 0 ≤ x35 then (if x35 < (x2.length : Int) then (if rdOf false x2 x35 = true then (if x35 < (x3.length : Int) then (if ((rd_L1 x3 x35).length : Int) = (x1.length : Int) then (if x35 < (x1.length : Int) then (if (rd x1 x35) < 0 then (hushref12_Sum.J2 x0 x1 x2 x3 x11 x35 x34 x35 true) else (hushref12_Sum.J2 x0 x1 x2 x3 x11 x35 x34 x35 (decide ((rd x1 x35) ≥ x0)))) else (none)) else (some (0, 8))) else (none)) else (hushref12_Sum.L0 x0 x1 x2 x3 x11 x34 (wrap64 (x35 + 1)))) else (none)) else (none)) else (some (x11, 0)) := by
  refine LimIs.step' (hushref12_Sum.L0_is x0 x1 x2 x3 x11 x34 x35).1 (b := fun k => if x35 < x34 then (if 0 ≤ x35 then (if x35 < (x2.length : Int) then (if rdOf false x2 x35 = true then (if x35 < (x3.length : Int) then (if ((rd_L1 x3 x35).length : Int) = (x1.length : Int) then (if x35 < (x1.length : Int) then (if (rd x1 x35) < 0 then (hushref12_Sum.j2 k x0 x1 x2 x3 x11 x35 x34 x35 true) else (hushref12_Sum.j2 k x0 x1 x2 x3 x11 x35 x34 x35 (decide ((rd x1 x35) ≥ x0)))) else (none)) else (some (0, 8))) else (none)) else (hushref12_Sum.l0 k x0 x1 x2 x3 x11 x34 (wrap64 (x35 + 1)))) else (none)) else (none)) else (some (x11, 0))) (fun k => by first | rfl | rw [hushref12_Sum.l0]) ?_
  repeat' first
    | (with_reducible exact hushref12_Sum.J2_is _ _ _ _ _ _ _ _ _)
    | (with_reducible exact hushref12_Sum.L0_is _ _ _ _ _ _ _)
    | (with_reducible exact LimIs.const _)
    | (with_reducible refine LimIs.ite ?_ ?_)
    | (with_reducible refine LimIs.bind ?_ (fun _ => ?_))
    | exact hushref12_Sum.J2_is _ _ _ _ _ _ _ _ _
    | exact hushref12_Sum.L0_is _ _ _ _ _ _ _
    | exact LimIs.const _
    | refine LimIs.ite ?_ ?_
    | refine LimIs.bind ?_ (fun _ => ?_)
set_option maxRecDepth 100000 in
theorem hushref12_Sum.J2_eq (x0 : Int) (x1 : List Int) (x2 : List Bool) (x3 : List (List Int)) (x11 : Int) (x12 : Int) (x34 : Int) (x35 : Int) (x63 : Bool) : hushref12_Sum.J2 x0 x1 x2 x3 x11 x12 x34 x35 x63 = if x63 = true then (some (0, 3)) else (if 0 ≤ x12 then (if x12 < (x1.length : Int) then ((hushref12_Mod.f (wrap64 (x11 + (rd x1 x12))) x0).bind fun t163 => (hushref12_Sum.L1 x0 x1 x2 x3 t163 x12 x34 x35 (x1.length : Int) 0)) else (none)) else (none)) := by
  refine LimIs.step' (hushref12_Sum.J2_is x0 x1 x2 x3 x11 x12 x34 x35 x63).1 (b := fun k => if x63 = true then (some (0, 3)) else (if 0 ≤ x12 then (if x12 < (x1.length : Int) then ((hushref12_Mod.f (wrap64 (x11 + (rd x1 x12))) x0).bind fun t163 => (hushref12_Sum.l1 k x0 x1 x2 x3 t163 x12 x34 x35 (x1.length : Int) 0)) else (none)) else (none))) (fun k => by first | rfl | rw [hushref12_Sum.j2]) ?_
  repeat' first
    | (with_reducible exact hushref12_Sum.L1_is _ _ _ _ _ _ _ _ _ _)
    | (with_reducible exact LimIs.const _)
    | (with_reducible refine LimIs.ite ?_ ?_)
    | (with_reducible refine LimIs.bind ?_ (fun _ => ?_))
    | exact hushref12_Sum.L1_is _ _ _ _ _ _ _ _ _ _
    | exact LimIs.const _
    | refine LimIs.ite ?_ ?_
    | refine LimIs.bind ?_ (fun _ => ?_)
set_option maxRecDepth 100000 in
theorem hushref12_Sum.L1_eq (x0 : Int) (x1 : List Int) (x2 : List Bool) (x3 : List (List Int)) (x11 : Int) (x12 : Int) (x34 : Int) (x35 : Int) (x73 : Int) (x74 : Int) : hushref12_Sum.L1 x0 x1 x2 x3 x11 x12 x34 x35 x73 x74 = if x74 < x73 then (if x74 = x12 then (hushref12_Sum.J4 x0 x1 x2 x3 x11 x12 x74 x34 x35 x73 x74 true) else (if 0 ≤ x74 then (if x74 < (x2.length : Int) then (hushref12_Sum.J4 x0 x1 x2 x3 x11 x12 x74 x34 x35 x73 x74 (rdOf false x2 x74)) else (none)) else (none))) else (hushref12_Sum.L0 x0 x1 x2 x3 x11 x34 (wrap64 (x35 + 1))) := by
  refine LimIs.step' (hushref12_Sum.L1_is x0 x1 x2 x3 x11 x12 x34 x35 x73 x74).1 (b := fun k => if x74 < x73 then (if x74 = x12 then (hushref12_Sum.j4 k x0 x1 x2 x3 x11 x12 x74 x34 x35 x73 x74 true) else (if 0 ≤ x74 then (if x74 < (x2.length : Int) then (hushref12_Sum.j4 k x0 x1 x2 x3 x11 x12 x74 x34 x35 x73 x74 (rdOf false x2 x74)) else (none)) else (none))) else (hushref12_Sum.l0 k x0 x1 x2 x3 x11 x34 (wrap64 (x35 + 1)))) (fun k => by first | rfl | rw [hushref12_Sum.l1]) ?_
  repeat' first
    | (with_reducible exact hushref12_Sum.J4_is _ _ _ _ _ _ _ _ _ _ _ _)
    | (with_reducible exact hushref12_Sum.L0_is _ _ _ _ _ _ _)
    | (with_reducible exact LimIs.const _)
    | (with_reducible refine LimIs.ite ?_ ?_)
    | (with_reducible refine LimIs.bind ?_ (fun _ => ?_))
    | exact hushref12_Sum.J4_is _ _ _ _ _ _ _ _ _ _ _ _
    | exact hushref12_Sum.L0_is _ _ _ _ _ _ _
    | exact LimIs.const _
    | refine LimIs.ite ?_ ?_
    | refine LimIs.bind ?_ (fun _ => ?_)
set_option maxRecDepth 100000 in
theorem hushref12_Sum.J4_eq (x0 : Int) (x1 : List Int) (x2 : List Bool) (x3 : List (List Int)) (x11 : Int) (x12 : Int) (x13 : Int) (x34 : Int) (x35 : Int) (x73 : Int) (x74 : Int) (x85 : Bool) : hushref12_Sum.J4 x0 x1 x2 x3 x11 x12 x13 x34 x35 x73 x74 x85 = if x85 = true then (hushref12_Sum.L1 x0 x1 x2 x3 x11 x12 x34 x35 x73 (wrap64 (x74 + 1))) else (if 0 ≤ x12 then (if x12 < (x3.length : Int) then (if 0 ≤ x13 then (if x13 < ((rd_L1 x3 x12).length : Int) then (if (rd (rd_L1 x3 x12) x13) < 0 then (hushref12_Sum.J5 x0 x1 x2 x3 x11 x12 x13 x34 x35 x73 x74 true) else (hushref12_Sum.J5 x0 x1 x2 x3 x11 x12 x13 x34 x35 x73 x74 (decide ((rd (rd_L1 x3 x12) x13) ≥ x0)))) else (none)) else (none)) else (none)) else (none)) := by
  refine LimIs.step' (hushref12_Sum.J4_is x0 x1 x2 x3 x11 x12 x13 x34 x35 x73 x74 x85).1 (b := fun k => if x85 = true then (hushref12_Sum.l1 k x0 x1 x2 x3 x11 x12 x34 x35 x73 (wrap64 (x74 + 1))) else (if 0 ≤ x12 then (if x12 < (x3.length : Int) then (if 0 ≤ x13 then (if x13 < ((rd_L1 x3 x12).length : Int) then (if (rd (rd_L1 x3 x12) x13) < 0 then (hushref12_Sum.j5 k x0 x1 x2 x3 x11 x12 x13 x34 x35 x73 x74 true) else (hushref12_Sum.j5 k x0 x1 x2 x3 x11 x12 x13 x34 x35 x73 x74 (decide ((rd (rd_L1 x3 x12) x13) ≥ x0)))) else (none)) else (none)) else (none)) else (none))) (fun k => by first | rfl | rw [hushref12_Sum.j4]) ?_
  repeat' first
    | (with_reducible exact hushref12_Sum.L1_is _ _ _ _ _ _ _ _ _ _)
    | (with_reducible exact hushref12_Sum.J5_is _ _ _ _ _ _ _ _ _ _ _ _)
    | (with_reducible exact LimIs.const _)
    | (with_reducible refine LimIs.ite ?_ ?_)
    | (with_reducible refine LimIs.bind ?_ (fun _ => ?_))
    | exact hushref12_Sum.L1_is _ _ _ _ _ _ _ _ _ _
    | exact hushref12_Sum.J5_is _ _ _ _ _ _ _ _ _ _ _ _
    | exact LimIs.const _
    | refine LimIs.ite ?_ ?_
    | refine LimIs.bind ?_ (fun _ => ?_)
set_option maxRecDepth 100000 in
theorem hushref12_Sum.J5_eq (x0 : Int) (x1 : List Int) (x2 : List Bool) (x3 : List (List Int)) (x11 : Int) (x12 : Int) (x13 : Int) (x34 : Int) (x35 : Int) (x73 : Int) (x74 : Int) (x104 : Bool) : hushref12_Sum.J5 x0 x1 x2 x3 x11 x12 x13 x34 x35 x73 x74 x104 = if x104 = true then (some (0, 3)) else (if x13 < x12 then (if 0 ≤ x12 then (if x12 < (x3.length : Int) then (if 0 ≤ x13 then (if x13 < ((rd_L1 x3 x12).length : Int) then ((hushref12_Mod.f (wrap64 (x11 + (rd (rd_L1 x3 x12) x13))) x0).bind fun t171 => (hushref12_Sum.L1 x0 x1 x2 x3 t171 x12 x34 x35 x73 (wrap64 (x74 + 1)))) else (none)) else (none)) else (none)) else (none)) else (if 0 ≤ x12 then (if x12 < (x3.length : Int) then (if 0 ≤ x13 then (if x13 < ((rd_L1 x3 x12).length : Int) then ((hushref12_Mod.f (wrap64 (x11 - (rd (rd_L1 x3 x12) x13))) x0).bind fun t174 => (hushref12_Sum.L1 x0 x1 x2 x3 t174 x12 x34 x35 x73 (wrap64 (x74 + 1)))) else (none)) else (none)) else (none)) else (none))) := by
  refine LimIs.step' (hushref12_Sum.J5_is x0 x1 x2 x3 x11 x12 x13 x34 x35 x73 x74 x104).1 (b := fun k => if x104 = true then (some (0, 3)) else (if x13 < x12 then (if 0 ≤ x12 then (if x12 < (x3.length : Int) then (if 0 ≤ x13 then (if x13 < ((rd_L1 x3 x12).length : Int) then ((hushref12_Mod.f (wrap64 (x11 + (rd (rd_L1 x3 x12) x13))) x0).bind fun t171 => (hushref12_Sum.l1 k x0 x1 x2 x3 t171 x12 x34 x35 x73 (wrap64 (x74 + 1)))) else (none)) else (none)) else (none)) else (none)) else (if 0 ≤ x12 then (if x12 < (x3.length : Int) then (if 0 ≤ x13 then (if x13 < ((rd_L1 x3 x12).length : Int) then ((hushref12_Mod.f (wrap64 (x11 - (rd (rd_L1 x3 x12) x13))) x0).bind fun t174 => (hushref12_Sum.l1 k x0 x1 x2 x3 t174 x12 x34 x35 x73 (wrap64 (x74 + 1)))) else (none)) else (none)) else (none)) else (none)))) (fun k => by first | rfl | rw [hushref12_Sum.j5]) ?_
  repeat' first
    | (with_reducible exact hushref12_Sum.L1_is _ _ _ _ _ _ _ _ _ _)
    | (with_reducible exact LimIs.const _)
    | (with_reducible refine LimIs.ite ?_ ?_)
    | (with_reducible refine LimIs.bind ?_ (fun _ => ?_))
    | exact hushref12_Sum.L1_is _ _ _ _ _ _ _ _ _ _
    | exact LimIs.const _
    | refine LimIs.ite ?_ ?_
    | refine LimIs.bind ?_ (fun _ => ?_)
set_option maxRecDepth 100000 in
theorem hushref12_Sum.F_eq (a0 : Int) (l1 : List Int) (l2 : List Bool) (l3 : List (List Int)) : hushref12_Sum.F a0 l1 l2 l3 = (hushref12_team.F a0 (l1.length : Int)).bind fun t157 => (if t157 = 0 then (if (l2.length : Int) = (l1.length : Int) then (hushref12_Sum.J0 a0 l1 l2 l3 ((l3.length : Int) != (l1.length : Int))) else (hushref12_Sum.J0 a0 l1 l2 l3 true)) else (some (0, t157))) := by
  refine LimIs.out (?_ : LimIs (fun k => (hushref12_team.f k a0 (l1.length : Int)).bind fun t157 => (if t157 = 0 then (if (l2.length : Int) = (l1.length : Int) then (hushref12_Sum.j0 k a0 l1 l2 l3 ((l3.length : Int) != (l1.length : Int))) else (hushref12_Sum.j0 k a0 l1 l2 l3 true)) else (some (0, t157)))) _)
  repeat' first
    | (with_reducible exact hushref12_team.F_is _ _)
    | (with_reducible exact hushref12_Sum.J0_is _ _ _ _ _)
    | (with_reducible exact LimIs.const _)
    | (with_reducible refine LimIs.ite ?_ ?_)
    | (with_reducible refine LimIs.bind ?_ (fun _ => ?_))
    | exact hushref12_team.F_is _ _
    | exact hushref12_Sum.J0_is _ _ _ _ _
    | exact LimIs.const _
    | refine LimIs.ite ?_ ?_
    | refine LimIs.bind ?_ (fun _ => ?_)
end Go.Proofs.Ytjehjjpejmdfiaa.PA

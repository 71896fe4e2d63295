/- The functions of the printed module 5 behind all rounds, and their equations. Conditions: none. -/
import Derived.Test.YtjehjjpejmdfiaaPAx5
import Derived.Test.YtjehjjpejmdfiaaLim
import Derived.Test.YtjehjjpejmdfiaaFAx0
import Derived.Test.YtjehjjpejmdfiaaFAx1
import Derived.Test.YtjehjjpejmdfiaaFAx2
import Derived.Test.YtjehjjpejmdfiaaFAx3
import Derived.Test.YtjehjjpejmdfiaaFAx4
namespace Go.Proofs.Ytjehjjpejmdfiaa.PA
open Go.RowKit Go.Proofs.YtjehjjpejmdfiaaW.PrintWords Go.Proofs.YtjehjjpejmdfiaaW.PrintLast Go.Proofs.YtjehjjpejmdfiaaW.PrintMore
open Go.Proofs.YtjehjjpejmdfiaaW.EvKit
set_option linter.unusedVariables false

noncomputable def hushlaw12_MaskHides.J0 (x0 : Int) (x1 : List Int) (x2 : List Int) (x3 : List Int) (x42 : Bool) : Option (Bool) := lim (fun k => hushlaw12_MaskHides.j0 k x0 x1 x2 x3 x42)
theorem hushlaw12_MaskHides.J0_is (x0 : Int) (x1 : List Int) (x2 : List Int) (x3 : List Int) (x42 : Bool) : LimIs (fun k => hushlaw12_MaskHides.j0 k x0 x1 x2 x3 x42) (hushlaw12_MaskHides.J0 x0 x1 x2 x3 x42) := ⟨fun k => (hushlaw12_MaskHides.mono_l k).1 x0 x1 x2 x3 x42, rfl⟩
noncomputable def hushlaw12_MaskHides.L0 (x0 : Int) (x1 : List Int) (x2 : List Int) (x3 : List Int) (x9 : Int) (x10 : Int) (x11 : Int) : Option (Bool) := lim (fun k => hushlaw12_MaskHides.l0 k x0 x1 x2 x3 x9 x10 x11)
theorem hushlaw12_MaskHides.L0_is (x0 : Int) (x1 : List Int) (x2 : List Int) (x3 : List Int) (x9 : Int) (x10 : Int) (x11 : Int) : LimIs (fun k => hushlaw12_MaskHides.l0 k x0 x1 x2 x3 x9 x10 x11) (hushlaw12_MaskHides.L0 x0 x1 x2 x3 x9 x10 x11) := ⟨fun k => (hushlaw12_MaskHides.mono_l k).2.1 x0 x1 x2 x3 x9 x10 x11, rfl⟩
noncomputable def hushlaw12_MaskHides.L1 (x0 : Int) (x1 : List Int) (x2 : List Int) (x3 : List Int) (x12 : Int) (x13 : Int) (x14 : Int) : Option (Bool) := lim (fun k => hushlaw12_MaskHides.l1 k x0 x1 x2 x3 x12 x13 x14)
theorem hushlaw12_MaskHides.L1_is (x0 : Int) (x1 : List Int) (x2 : List Int) (x3 : List Int) (x12 : Int) (x13 : Int) (x14 : Int) : LimIs (fun k => hushlaw12_MaskHides.l1 k x0 x1 x2 x3 x12 x13 x14) (hushlaw12_MaskHides.L1 x0 x1 x2 x3 x12 x13 x14) := ⟨fun k => (hushlaw12_MaskHides.mono_l k).2.2.1 x0 x1 x2 x3 x12 x13 x14, rfl⟩
noncomputable def hushlaw12_MaskHides.J3 (x0 : Int) (x1 : List Int) (x2 : List Int) (x3 : List Int) (x12 : Int) (x13 : Int) (x14 : Int) (x16 : List Int) (x18 : List Int) (x114 : Bool) : Option (Bool) := lim (fun k => hushlaw12_MaskHides.j3 k x0 x1 x2 x3 x12 x13 x14 x16 x18 x114)
theorem hushlaw12_MaskHides.J3_is (x0 : Int) (x1 : List Int) (x2 : List Int) (x3 : List Int) (x12 : Int) (x13 : Int) (x14 : Int) (x16 : List Int) (x18 : List Int) (x114 : Bool) : LimIs (fun k => hushlaw12_MaskHides.j3 k x0 x1 x2 x3 x12 x13 x14 x16 x18 x114) (hushlaw12_MaskHides.J3 x0 x1 x2 x3 x12 x13 x14 x16 x18 x114) := ⟨fun k => (hushlaw12_MaskHides.mono_l k).2.2.2 x0 x1 x2 x3 x12 x13 x14 x16 x18 x114, rfl⟩
noncomputable def hushlaw12_MaskHides.F (a0 : Int) (l1 : List Int) (l2 : List Int) (l3 : List Int) : Option (Bool) := lim (fun k => hushlaw12_MaskHides.f k a0 l1 l2 l3)
theorem hushlaw12_MaskHides.F_is (a0 : Int) (l1 : List Int) (l2 : List Int) (l3 : List Int) : LimIs (fun k => hushlaw12_MaskHides.f k a0 l1 l2 l3) (hushlaw12_MaskHides.F a0 l1 l2 l3) := ⟨fun k => hushlaw12_MaskHides.mono a0 l1 l2 l3 k, rfl⟩
set_option maxRecDepth 100000 in
theorem hushlaw12_MaskHides.J0_eq (x0 : Int) (x1 : List Int) (x2 : List Int) (x3 : List Int) (x42 : Bool) : hushlaw12_MaskHides.J0 x0 x1 x2 x3 x42 = if x42 = true then (some true) else (hushlaw12_MaskHides.L0 x0 x1 x2 x3 0 0 0) := by
  refine LimIs.step' (hushlaw12_MaskHides.J0_is x0 x1 x2 x3 x42).1 (b := fun k => if x42 = true then (some true) else (hushlaw12_MaskHides.l0 k x0 x1 x2 x3 0 0 0)) (fun k => by first | rfl | rw [hushlaw12_MaskHides.j0]) ?_
  repeat' first
    | (with_reducible exact hushlaw12_MaskHides.L0_is _ _ _ _ _ _ _)
    | (with_reducible exact LimIs.const _)
    | (with_reducible refine LimIs.ite ?_ ?_)
    | (with_reducible refine LimIs.bind ?_ (fun _ => ?_))
    | exact hushlaw12_MaskHides.L0_is _ _ _ _ _ _ _
    | exact LimIs.const _
    | refine LimIs.ite ?_ ?_
    | refine LimIs.bind ?_ (fun _ => ?_)
set_option maxRecDepth 100000 in
theorem hushlaw12_MaskHides.L0_eq (x0 : Int) (x1 : List Int) (x2 : List Int) (x3 : List Int) (x9 : Int) (x10 : Int) (x11 : Int) : hushlaw12_MaskHides.L0 x0 x1 x2 x3 x9 x10 x11 = if x11 < 3 then (if 0 ≤ x11 then (if x11 < (x1.length : Int) then ((hushref12_Mod.f (rd x1 x11) x0).bind fun t119 => ((hushref12_Mod.f (wrap64 (x9 + t119)) x0).bind fun t120 => (if x11 < (x2.length : Int) then ((hushref12_Mod.f (rd x2 x11) x0).bind fun t122 => ((hushref12_Mod.f (wrap64 (x10 + t122)) x0).bind fun t123 => (hushlaw12_MaskHides.L0 x0 x1 x2 x3 t120 t123 (wrap64 (x11 + 1))))) else (none)))) else (none)) else (none)) else (if x9 = x10 then (hushlaw12_MaskHides.L1 x0 x1 x2 x3 0 0 0) else (some true)) := by
  refine LimIs.step' (hushlaw12_MaskHides.L0_is x0 x1 x2 x3 x9 x10 x11).1 (b := fun k => if x11 < 3 then (if 0 ≤ x11 then (if x11 < (x1.length : Int) then ((hushref12_Mod.f (rd x1 x11) x0).bind fun t119 => ((hushref12_Mod.f (wrap64 (x9 + t119)) x0).bind fun t120 => (if x11 < (x2.length : Int) then ((hushref12_Mod.f (rd x2 x11) x0).bind fun t122 => ((hushref12_Mod.f (wrap64 (x10 + t122)) x0).bind fun t123 => (hushlaw12_MaskHides.l0 k x0 x1 x2 x3 t120 t123 (wrap64 (x11 + 1))))) else (none)))) else (none)) else (none)) else (if x9 = x10 then (hushlaw12_MaskHides.l1 k x0 x1 x2 x3 0 0 0) else (some true))) (fun k => by first | rfl | rw [hushlaw12_MaskHides.l0]) ?_
  repeat' first
    | (with_reducible exact hushlaw12_MaskHides.L0_is _ _ _ _ _ _ _)
    | (with_reducible exact hushlaw12_MaskHides.L1_is _ _ _ _ _ _ _)
    | (with_reducible exact LimIs.const _)
    | (with_reducible refine LimIs.ite ?_ ?_)
    | (with_reducible refine LimIs.bind ?_ (fun _ => ?_))
    | exact hushlaw12_MaskHides.L0_is _ _ _ _ _ _ _
    | exact hushlaw12_MaskHides.L1_is _ _ _ _ _ _ _
    | exact LimIs.const _
    | refine LimIs.ite ?_ ?_
    | refine LimIs.bind ?_ (fun _ => ?_)
set_option maxRecDepth 100000 in
theorem hushlaw12_MaskHides.L1_eq (x0 : Int) (x1 : List Int) (x2 : List Int) (x3 : List Int) (x12 : Int) (x13 : Int) (x14 : Int) : hushlaw12_MaskHides.L1 x0 x1 x2 x3 x12 x13 x14 = if x14 < (wrap64 ((wrap64 (x0 * x0)) * x0)) then (if x0 = 0 then (none) else ((hushlaw12_shares.f x0 3 (([Int.tmod x14 x0, Int.tmod (wrap64 (Int.tdiv x14 x0)) x0, wrap64 (Int.tdiv (wrap64 (Int.tdiv x14 x0)) x0)] : List Int))).bind fun t127 => ((hushlaw12_masks.F x0 x1 t127).bind fun bt130 => ((hushlaw12_masks.F x0 x2 t127).bind fun bt134 => (if bt130.2 = true then (hushlaw12_MaskHides.J3 x0 x1 x2 x3 x12 x13 x14 bt130.1 bt134.1 (!bt134.2)) else (hushlaw12_MaskHides.J3 x0 x1 x2 x3 x12 x13 x14 bt130.1 bt134.1 true)))))) else (some (x12 == x13)) := by
  refine LimIs.step' (hushlaw12_MaskHides.L1_is x0 x1 x2 x3 x12 x13 x14).1 (b := fun k => if x14 < (wrap64 ((wrap64 (x0 * x0)) * x0)) then (if x0 = 0 then (none) else ((hushlaw12_shares.f x0 3 (([Int.tmod x14 x0, Int.tmod (wrap64 (Int.tdiv x14 x0)) x0, wrap64 (Int.tdiv (wrap64 (Int.tdiv x14 x0)) x0)] : List Int))).bind fun t127 => ((hushlaw12_masks.f k x0 x1 t127).bind fun bt130 => ((hushlaw12_masks.f k x0 x2 t127).bind fun bt134 => (if bt130.2 = true then (hushlaw12_MaskHides.j3 k x0 x1 x2 x3 x12 x13 x14 bt130.1 bt134.1 (!bt134.2)) else (hushlaw12_MaskHides.j3 k x0 x1 x2 x3 x12 x13 x14 bt130.1 bt134.1 true)))))) else (some (x12 == x13))) (fun k => by first | rfl | rw [hushlaw12_MaskHides.l1]) ?_
  repeat' first
    | (with_reducible exact hushlaw12_masks.F_is _ _ _)
    | (with_reducible exact hushlaw12_MaskHides.J3_is _ _ _ _ _ _ _ _ _ _)
    | (with_reducible exact LimIs.const _)
    | (with_reducible refine LimIs.ite ?_ ?_)
    | (with_reducible refine LimIs.bind ?_ (fun _ => ?_))
    | exact hushlaw12_masks.F_is _ _ _
    | exact hushlaw12_MaskHides.J3_is _ _ _ _ _ _ _ _ _ _
    | exact LimIs.const _
    | refine LimIs.ite ?_ ?_
    | refine LimIs.bind ?_ (fun _ => ?_)
set_option maxRecDepth 100000 in
theorem hushlaw12_MaskHides.J3_eq (x0 : Int) (x1 : List Int) (x2 : List Int) (x3 : List Int) (x12 : Int) (x13 : Int) (x14 : Int) (x16 : List Int) (x18 : List Int) (x114 : Bool) : hushlaw12_MaskHides.J3 x0 x1 x2 x3 x12 x13 x14 x16 x18 x114 = if x114 = true then (some false) else ((hushlaw12_same.F x16 x3 x0).bind fun t138 => (if t138 = true then ((hushlaw12_same.F x18 x3 x0).bind fun t139 => (if t139 = true then (hushlaw12_MaskHides.L1 x0 x1 x2 x3 (wrap64 (x12 + 1)) (wrap64 (x13 + 1)) (wrap64 (x14 + 1))) else (hushlaw12_MaskHides.L1 x0 x1 x2 x3 (wrap64 (x12 + 1)) x13 (wrap64 (x14 + 1))))) else ((hushlaw12_same.F x18 x3 x0).bind fun t140 => (if t140 = true then (hushlaw12_MaskHides.L1 x0 x1 x2 x3 x12 (wrap64 (x13 + 1)) (wrap64 (x14 + 1))) else (hushlaw12_MaskHides.L1 x0 x1 x2 x3 x12 x13 (wrap64 (x14 + 1))))))) := by
  refine LimIs.step' (hushlaw12_MaskHides.J3_is x0 x1 x2 x3 x12 x13 x14 x16 x18 x114).1 (b := fun k => if x114 = true then (some false) else ((hushlaw12_same.f k x16 x3 x0).bind fun t138 => (if t138 = true then ((hushlaw12_same.f k x18 x3 x0).bind fun t139 => (if t139 = true then (hushlaw12_MaskHides.l1 k x0 x1 x2 x3 (wrap64 (x12 + 1)) (wrap64 (x13 + 1)) (wrap64 (x14 + 1))) else (hushlaw12_MaskHides.l1 k x0 x1 x2 x3 (wrap64 (x12 + 1)) x13 (wrap64 (x14 + 1))))) else ((hushlaw12_same.f k x18 x3 x0).bind fun t140 => (if t140 = true then (hushlaw12_MaskHides.l1 k x0 x1 x2 x3 x12 (wrap64 (x13 + 1)) (wrap64 (x14 + 1))) else (hushlaw12_MaskHides.l1 k x0 x1 x2 x3 x12 x13 (wrap64 (x14 + 1)))))))) (fun k => by first | rfl | rw [hushlaw12_MaskHides.j3]) ?_
  repeat' first
    | (with_reducible exact hushlaw12_same.F_is _ _ _)
    | (with_reducible exact hushlaw12_MaskHides.L1_is _ _ _ _ _ _ _)
    | (with_reducible exact LimIs.const _)
    | (with_reducible refine LimIs.ite ?_ ?_)
    | (with_reducible refine LimIs.bind ?_ (fun _ => ?_))
    | exact hushlaw12_same.F_is _ _ _
    | exact hushlaw12_MaskHides.L1_is _ _ _ _ _ _ _
    | exact LimIs.const _
    | refine LimIs.ite ?_ ?_
    | refine LimIs.bind ?_ (fun _ => ?_)
set_option maxRecDepth 100000 in
theorem hushlaw12_MaskHides.F_eq (a0 : Int) (l1 : List Int) (l2 : List Int) (l3 : List Int) : hushlaw12_MaskHides.F a0 l1 l2 l3 = (hushlaw12_alive.F).bind fun t117 => (if t117 = true then (if a0 < 2 then (hushlaw12_MaskHides.J0 a0 l1 l2 l3 true) else (if a0 > 6 then (hushlaw12_MaskHides.J0 a0 l1 l2 l3 true) else (if (l1.length : Int) = 3 then (if (l2.length : Int) = 3 then (hushlaw12_MaskHides.J0 a0 l1 l2 l3 ((l3.length : Int) != 3)) else (hushlaw12_MaskHides.J0 a0 l1 l2 l3 true)) else (hushlaw12_MaskHides.J0 a0 l1 l2 l3 true)))) else (some false)) := by
  refine LimIs.out (?_ : LimIs (fun k => (hushlaw12_alive.f k).bind fun t117 => (if t117 = true then (if a0 < 2 then (hushlaw12_MaskHides.j0 k a0 l1 l2 l3 true) else (if a0 > 6 then (hushlaw12_MaskHides.j0 k a0 l1 l2 l3 true) else (if (l1.length : Int) = 3 then (if (l2.length : Int) = 3 then (hushlaw12_MaskHides.j0 k a0 l1 l2 l3 ((l3.length : Int) != 3)) else (hushlaw12_MaskHides.j0 k a0 l1 l2 l3 true)) else (hushlaw12_MaskHides.j0 k a0 l1 l2 l3 true)))) else (some false))) _)
  repeat' first
    | (with_reducible exact hushlaw12_alive.F_is)
    | (with_reducible exact hushlaw12_MaskHides.J0_is _ _ _ _ _)
    | (with_reducible exact LimIs.const _)
    | (with_reducible refine LimIs.ite ?_ ?_)
    | (with_reducible refine LimIs.bind ?_ (fun _ => ?_))
    | exact hushlaw12_alive.F_is
    | exact hushlaw12_MaskHides.J0_is _ _ _ _ _
    | exact LimIs.const _
    | refine LimIs.ite ?_ ?_
    | refine LimIs.bind ?_ (fun _ => ?_)
end Go.Proofs.Ytjehjjpejmdfiaa.PA

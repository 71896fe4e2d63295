/- The functions of the printed module 6d behind all rounds, and their equations. Conditions: none. -/
import Derived.Test.YtnlkacmkakgaoaaPBx6d
import Derived.Test.YtnlkacmkakgaoaaLim
import Derived.Test.YtnlkacmkakgaoaaFBx0
import Derived.Test.YtnlkacmkakgaoaaFBx1
import Derived.Test.YtnlkacmkakgaoaaFBx4
import Derived.Test.YtnlkacmkakgaoaaFBx5
namespace Go.Proofs.Ytnlkacmkakgaoaa.PB
open Go.RowKit Go.Proofs.YtnlkacmkakgaoaaW.PrintWords Go.Proofs.YtnlkacmkakgaoaaW.PrintLast Go.Proofs.YtnlkacmkakgaoaaW.PrintMore
open Go.Proofs.YtnlkacmkakgaoaaW.EvKit
set_option linter.unusedVariables false

noncomputable def hushlaw1_RatioField.L0 (x37 : List Bool) (x38 : Int) (x39 : Int) (x122000 : Int) (x122001 : Int) (x123000 : Int) (x123001 : Int) (x124000 : Int) (x124001 : Int) : Option (Bool) := lim (fun k => hushlaw1_RatioField.l0 k x37 x38 x39 x122000 x122001 x123000 x123001 x124000 x124001)
theorem hushlaw1_RatioField.L0_is (x37 : List Bool) (x38 : Int) (x39 : Int) (x122000 : Int) (x122001 : Int) (x123000 : Int) (x123001 : Int) (x124000 : Int) (x124001 : Int) : LimIs (fun k => hushlaw1_RatioField.l0 k x37 x38 x39 x122000 x122001 x123000 x123001 x124000 x124001) (hushlaw1_RatioField.L0 x37 x38 x39 x122000 x122001 x123000 x123001 x124000 x124001) := ⟨fun k => (hushlaw1_RatioField.mono_l k).1 x37 x38 x39 x122000 x122001 x123000 x123001 x124000 x124001, rfl⟩
noncomputable def hushlaw1_RatioField.J1 (x8 : Bool) (x10 : Bool) (x37 : List Bool) (x38 : Int) (x39 : Int) (x64 : Bool) (x122000 : Int) (x122001 : Int) (x123000 : Int) (x123001 : Int) (x124000 : Int) (x124001 : Int) (x133000 : Int) (x133001 : Int) : Option (Bool) := lim (fun k => hushlaw1_RatioField.j1 k x8 x10 x37 x38 x39 x64 x122000 x122001 x123000 x123001 x124000 x124001 x133000 x133001)
theorem hushlaw1_RatioField.J1_is (x8 : Bool) (x10 : Bool) (x37 : List Bool) (x38 : Int) (x39 : Int) (x64 : Bool) (x122000 : Int) (x122001 : Int) (x123000 : Int) (x123001 : Int) (x124000 : Int) (x124001 : Int) (x133000 : Int) (x133001 : Int) : LimIs (fun k => hushlaw1_RatioField.j1 k x8 x10 x37 x38 x39 x64 x122000 x122001 x123000 x123001 x124000 x124001 x133000 x133001) (hushlaw1_RatioField.J1 x8 x10 x37 x38 x39 x64 x122000 x122001 x123000 x123001 x124000 x124001 x133000 x133001) := ⟨fun k => (hushlaw1_RatioField.mono_l k).2.1 x8 x10 x37 x38 x39 x64 x122000 x122001 x123000 x123001 x124000 x124001 x133000 x133001, rfl⟩
noncomputable def hushlaw1_RatioField.J2 (x8 : Bool) (x37 : List Bool) (x38 : Int) (x39 : Int) (x77 : Bool) (x122000 : Int) (x122001 : Int) (x123000 : Int) (x123001 : Int) (x124000 : Int) (x124001 : Int) (x133000 : Int) (x133001 : Int) (x141000 : Int) (x141001 : Int) : Option (Bool) := lim (fun k => hushlaw1_RatioField.j2 k x8 x37 x38 x39 x77 x122000 x122001 x123000 x123001 x124000 x124001 x133000 x133001 x141000 x141001)
theorem hushlaw1_RatioField.J2_is (x8 : Bool) (x37 : List Bool) (x38 : Int) (x39 : Int) (x77 : Bool) (x122000 : Int) (x122001 : Int) (x123000 : Int) (x123001 : Int) (x124000 : Int) (x124001 : Int) (x133000 : Int) (x133001 : Int) (x141000 : Int) (x141001 : Int) : LimIs (fun k => hushlaw1_RatioField.j2 k x8 x37 x38 x39 x77 x122000 x122001 x123000 x123001 x124000 x124001 x133000 x133001 x141000 x141001) (hushlaw1_RatioField.J2 x8 x37 x38 x39 x77 x122000 x122001 x123000 x123001 x124000 x124001 x133000 x133001 x141000 x141001) := ⟨fun k => (hushlaw1_RatioField.mono_l k).2.2.1 x8 x37 x38 x39 x77 x122000 x122001 x123000 x123001 x124000 x124001 x133000 x133001 x141000 x141001, rfl⟩
noncomputable def hushlaw1_RatioField.J3 (x125 : Bool) (x122000 : Int) (x122001 : Int) (x123000 : Int) (x123001 : Int) (x153000 : Int) (x153001 : Int) (x157000 : Int) (x157001 : Int) (x161000 : Int) (x161001 : Int) : Option (Bool) := lim (fun k => hushlaw1_RatioField.j3 k x125 x122000 x122001 x123000 x123001 x153000 x153001 x157000 x157001 x161000 x161001)
theorem hushlaw1_RatioField.J3_is (x125 : Bool) (x122000 : Int) (x122001 : Int) (x123000 : Int) (x123001 : Int) (x153000 : Int) (x153001 : Int) (x157000 : Int) (x157001 : Int) (x161000 : Int) (x161001 : Int) : LimIs (fun k => hushlaw1_RatioField.j3 k x125 x122000 x122001 x123000 x123001 x153000 x153001 x157000 x157001 x161000 x161001) (hushlaw1_RatioField.J3 x125 x122000 x122001 x123000 x123001 x153000 x153001 x157000 x157001 x161000 x161001) := ⟨fun k => (hushlaw1_RatioField.mono_l k).2.2.2.1 x125 x122000 x122001 x123000 x123001 x153000 x153001 x157000 x157001 x161000 x161001, rfl⟩
noncomputable def hushlaw1_RatioField.J4 (x122000 : Int) (x122001 : Int) (x123000 : Int) (x123001 : Int) : Option (Bool) := lim (fun k => hushlaw1_RatioField.j4 k x122000 x122001 x123000 x123001)
theorem hushlaw1_RatioField.J4_is (x122000 : Int) (x122001 : Int) (x123000 : Int) (x123001 : Int) : LimIs (fun k => hushlaw1_RatioField.j4 k x122000 x122001 x123000 x123001) (hushlaw1_RatioField.J4 x122000 x122001 x123000 x123001) := ⟨fun k => (hushlaw1_RatioField.mono_l k).2.2.2.2.1 x122000 x122001 x123000 x123001, rfl⟩
noncomputable def hushlaw1_RatioField.J5 (x122000 : Int) (x122001 : Int) (x123000 : Int) (x123001 : Int) : Option (Bool) := lim (fun k => hushlaw1_RatioField.j5 k x122000 x122001 x123000 x123001)
theorem hushlaw1_RatioField.J5_is (x122000 : Int) (x122001 : Int) (x123000 : Int) (x123001 : Int) : LimIs (fun k => hushlaw1_RatioField.j5 k x122000 x122001 x123000 x123001) (hushlaw1_RatioField.J5 x122000 x122001 x123000 x123001) := ⟨fun k => (hushlaw1_RatioField.mono_l k).2.2.2.2.2 x122000 x122001 x123000 x123001, rfl⟩
noncomputable def hushlaw1_RatioField.F (a0_0 : Int) (a0_1 : Int) (a1_0 : Int) (a1_1 : Int) (a2_0 : Int) (a2_1 : Int) : Option (Bool) := lim (fun k => hushlaw1_RatioField.f k a0_0 a0_1 a1_0 a1_1 a2_0 a2_1)
theorem hushlaw1_RatioField.F_is (a0_0 : Int) (a0_1 : Int) (a1_0 : Int) (a1_1 : Int) (a2_0 : Int) (a2_1 : Int) : LimIs (fun k => hushlaw1_RatioField.f k a0_0 a0_1 a1_0 a1_1 a2_0 a2_1) (hushlaw1_RatioField.F a0_0 a0_1 a1_0 a1_1 a2_0 a2_1) := ⟨fun k => hushlaw1_RatioField.mono a0_0 a0_1 a1_0 a1_1 a2_0 a2_1 k, rfl⟩
set_option maxRecDepth 100000 in
theorem hushlaw1_RatioField.L0_eq (x37 : List Bool) (x38 : Int) (x39 : Int) (x122000 : Int) (x122001 : Int) (x123000 : Int) (x123001 : Int) (x124000 : Int) (x124001 : Int) : hushlaw1_RatioField.L0 x37 x38 x39 x122000 x122001 x123000 x123001 x124000 x124001 = if x39 < x38 then (if 0 ≤ x39 then (if x39 < (x37.length : Int) then ((hushlaw1_two.F (rdOf false x37 x39) x122000 x122001 x123000 x123001).bind fun bt129 => ((hushlaw1_two.F (rdOf false x37 x39) x123000 x123001 x122000 x122001).bind fun bt133 => (if (bt129.2.2 != bt133.2.2) = true then (hushlaw1_RatioField.J1 (rdOf false x37 x39) bt129.2.2 x37 x38 x39 true x122000 x122001 x123000 x123001 x124000 x124001 bt129.1 bt129.2.1) else (hushlaw1_RatioField.J1 (rdOf false x37 x39) bt129.2.2 x37 x38 x39 (!(bt129.1 == bt133.1) || (!(bt129.2.1 == bt133.2.1))) x122000 x122001 x123000 x123001 x124000 x124001 bt129.1 bt129.2.1)))) else (none)) else (none)) else ((hushlaw1_two.F true x123000 x123001 x124000 x124001).bind fun bt149 => ((hushlaw1_two.F false x122000 x122001 x123000 x123001).bind fun bt153 => ((hushlaw1_two.F false x122000 x122001 x124000 x124001).bind fun bt157 => (if bt149.2.2 = true then (if bt153.2.2 = true then (hushlaw1_RatioField.J3 bt157.2.2 x122000 x122001 x123000 x123001 bt149.1 bt149.2.1 bt153.1 bt153.2.1 bt157.1 bt157.2.1) else (hushlaw1_RatioField.J3 false x122000 x122001 x123000 x123001 bt149.1 bt149.2.1 bt153.1 bt153.2.1 bt157.1 bt157.2.1)) else (hushlaw1_RatioField.J3 false x122000 x122001 x123000 x123001 bt149.1 bt149.2.1 bt153.1 bt153.2.1 bt157.1 bt157.2.1))))) := by
  refine LimIs.step' (hushlaw1_RatioField.L0_is x37 x38 x39 x122000 x122001 x123000 x123001 x124000 x124001).1 (b := fun k => if x39 < x38 then (if 0 ≤ x39 then (if x39 < (x37.length : Int) then ((hushlaw1_two.f k (rdOf false x37 x39) x122000 x122001 x123000 x123001).bind fun bt129 => ((hushlaw1_two.f k (rdOf false x37 x39) x123000 x123001 x122000 x122001).bind fun bt133 => (if (bt129.2.2 != bt133.2.2) = true then (hushlaw1_RatioField.j1 k (rdOf false x37 x39) bt129.2.2 x37 x38 x39 true x122000 x122001 x123000 x123001 x124000 x124001 bt129.1 bt129.2.1) else (hushlaw1_RatioField.j1 k (rdOf false x37 x39) bt129.2.2 x37 x38 x39 (!(bt129.1 == bt133.1) || (!(bt129.2.1 == bt133.2.1))) x122000 x122001 x123000 x123001 x124000 x124001 bt129.1 bt129.2.1)))) else (none)) else (none)) else ((hushlaw1_two.f k true x123000 x123001 x124000 x124001).bind fun bt149 => ((hushlaw1_two.f k false x122000 x122001 x123000 x123001).bind fun bt153 => ((hushlaw1_two.f k false x122000 x122001 x124000 x124001).bind fun bt157 => (if bt149.2.2 = true then (if bt153.2.2 = true then (hushlaw1_RatioField.j3 k bt157.2.2 x122000 x122001 x123000 x123001 bt149.1 bt149.2.1 bt153.1 bt153.2.1 bt157.1 bt157.2.1) else (hushlaw1_RatioField.j3 k false x122000 x122001 x123000 x123001 bt149.1 bt149.2.1 bt153.1 bt153.2.1 bt157.1 bt157.2.1)) else (hushlaw1_RatioField.j3 k false x122000 x122001 x123000 x123001 bt149.1 bt149.2.1 bt153.1 bt153.2.1 bt157.1 bt157.2.1)))))) (fun k => by first | rfl | rw [hushlaw1_RatioField.l0]) ?_
  repeat' first
    | (with_reducible exact hushlaw1_two.F_is _ _ _ _ _)
    | (with_reducible exact hushlaw1_RatioField.J1_is _ _ _ _ _ _ _ _ _ _ _ _ _ _)
    | (with_reducible exact hushlaw1_RatioField.J3_is _ _ _ _ _ _ _ _ _ _ _)
    | (with_reducible exact LimIs.const _)
    | (with_reducible refine LimIs.ite ?_ ?_)
    | (with_reducible refine LimIs.bind ?_ (fun _ => ?_))
    | exact hushlaw1_two.F_is _ _ _ _ _
    | exact hushlaw1_RatioField.J1_is _ _ _ _ _ _ _ _ _ _ _ _ _ _
    | exact hushlaw1_RatioField.J3_is _ _ _ _ _ _ _ _ _ _ _
    | exact LimIs.const _
    | refine LimIs.ite ?_ ?_
    | refine LimIs.bind ?_ (fun _ => ?_)
set_option maxRecDepth 100000 in
theorem hushlaw1_RatioField.J1_eq (x8 : Bool) (x10 : Bool) (x37 : List Bool) (x38 : Int) (x39 : Int) (x64 : Bool) (x122000 : Int) (x122001 : Int) (x123000 : Int) (x123001 : Int) (x124000 : Int) (x124001 : Int) (x133000 : Int) (x133001 : Int) : hushlaw1_RatioField.J1 x8 x10 x37 x38 x39 x64 x122000 x122001 x123000 x123001 x124000 x124001 x133000 x133001 = if x64 = true then (some false) else ((hushlaw1_two.F x8 x123000 x123001 x124000 x124001).bind fun bt137 => (if x10 = true then (hushlaw1_RatioField.J2 x8 x37 x38 x39 (!bt137.2.2) x122000 x122001 x123000 x123001 x124000 x124001 x133000 x133001 bt137.1 bt137.2.1) else (hushlaw1_RatioField.J2 x8 x37 x38 x39 true x122000 x122001 x123000 x123001 x124000 x124001 x133000 x133001 bt137.1 bt137.2.1))) := by
  refine LimIs.step' (hushlaw1_RatioField.J1_is x8 x10 x37 x38 x39 x64 x122000 x122001 x123000 x123001 x124000 x124001 x133000 x133001).1 (b := fun k => if x64 = true then (some false) else ((hushlaw1_two.f k x8 x123000 x123001 x124000 x124001).bind fun bt137 => (if x10 = true then (hushlaw1_RatioField.j2 k x8 x37 x38 x39 (!bt137.2.2) x122000 x122001 x123000 x123001 x124000 x124001 x133000 x133001 bt137.1 bt137.2.1) else (hushlaw1_RatioField.j2 k x8 x37 x38 x39 true x122000 x122001 x123000 x123001 x124000 x124001 x133000 x133001 bt137.1 bt137.2.1)))) (fun k => by first | rfl | rw [hushlaw1_RatioField.j1]) ?_
  repeat' first
    | (with_reducible exact hushlaw1_two.F_is _ _ _ _ _)
    | (with_reducible exact hushlaw1_RatioField.J2_is _ _ _ _ _ _ _ _ _ _ _ _ _ _ _)
    | (with_reducible exact LimIs.const _)
    | (with_reducible refine LimIs.ite ?_ ?_)
    | (with_reducible refine LimIs.bind ?_ (fun _ => ?_))
    | exact hushlaw1_two.F_is _ _ _ _ _
    | exact hushlaw1_RatioField.J2_is _ _ _ _ _ _ _ _ _ _ _ _ _ _ _
    | exact LimIs.const _
    | refine LimIs.ite ?_ ?_
    | refine LimIs.bind ?_ (fun _ => ?_)
set_option maxRecDepth 100000 in
theorem hushlaw1_RatioField.J2_eq (x8 : Bool) (x37 : List Bool) (x38 : Int) (x39 : Int) (x77 : Bool) (x122000 : Int) (x122001 : Int) (x123000 : Int) (x123001 : Int) (x124000 : Int) (x124001 : Int) (x133000 : Int) (x133001 : Int) (x141000 : Int) (x141001 : Int) : hushlaw1_RatioField.J2 x8 x37 x38 x39 x77 x122000 x122001 x123000 x123001 x124000 x124001 x133000 x133001 x141000 x141001 = if x77 = true then (hushlaw1_RatioField.L0 x37 x38 (wrap64 (x39 + 1)) x122000 x122001 x123000 x123001 x124000 x124001) else ((hushlaw1_two.F x8 x133000 x133001 x124000 x124001).bind fun bt141 => ((hushlaw1_two.F x8 x122000 x122001 x141000 x141001).bind fun bt145 => (if (bt141.2.2 != bt145.2.2) = true then (some false) else (if (!(bt141.1 == bt145.1) || (!(bt141.2.1 == bt145.2.1))) = true then (some false) else (hushlaw1_RatioField.L0 x37 x38 (wrap64 (x39 + 1)) x122000 x122001 x123000 x123001 x124000 x124001))))) := by
  refine LimIs.step' (hushlaw1_RatioField.J2_is x8 x37 x38 x39 x77 x122000 x122001 x123000 x123001 x124000 x124001 x133000 x133001 x141000 x141001).1 (b := fun k => if x77 = true then (hushlaw1_RatioField.l0 k x37 x38 (wrap64 (x39 + 1)) x122000 x122001 x123000 x123001 x124000 x124001) else ((hushlaw1_two.f k x8 x133000 x133001 x124000 x124001).bind fun bt141 => ((hushlaw1_two.f k x8 x122000 x122001 x141000 x141001).bind fun bt145 => (if (bt141.2.2 != bt145.2.2) = true then (some false) else (if (!(bt141.1 == bt145.1) || (!(bt141.2.1 == bt145.2.1))) = true then (some false) else (hushlaw1_RatioField.l0 k x37 x38 (wrap64 (x39 + 1)) x122000 x122001 x123000 x123001 x124000 x124001)))))) (fun k => by first | rfl | rw [hushlaw1_RatioField.j2]) ?_
  repeat' first
    | (with_reducible exact hushlaw1_RatioField.L0_is _ _ _ _ _ _ _ _ _)
    | (with_reducible exact hushlaw1_two.F_is _ _ _ _ _)
    | (with_reducible exact LimIs.const _)
    | (with_reducible refine LimIs.ite ?_ ?_)
    | (with_reducible refine LimIs.bind ?_ (fun _ => ?_))
    | exact hushlaw1_RatioField.L0_is _ _ _ _ _ _ _ _ _
    | exact hushlaw1_two.F_is _ _ _ _ _
    | exact LimIs.const _
    | refine LimIs.ite ?_ ?_
    | refine LimIs.bind ?_ (fun _ => ?_)
set_option maxRecDepth 100000 in
theorem hushlaw1_RatioField.J3_eq (x125 : Bool) (x122000 : Int) (x122001 : Int) (x123000 : Int) (x123001 : Int) (x153000 : Int) (x153001 : Int) (x157000 : Int) (x157001 : Int) (x161000 : Int) (x161001 : Int) : hushlaw1_RatioField.J3 x125 x122000 x122001 x123000 x123001 x153000 x153001 x157000 x157001 x161000 x161001 = if x125 = true then ((hushlaw1_two.F false x122000 x122001 x153000 x153001).bind fun bt161 => ((hushlaw1_two.F true x157000 x157001 x161000 x161001).bind fun bt165 => (if (bt161.2.2 != bt165.2.2) = true then (some false) else (if (!(bt161.1 == bt165.1) || (!(bt161.2.1 == bt165.2.1))) = true then (some false) else (hushlaw1_RatioField.J4 x122000 x122001 x123000 x123001))))) else (hushlaw1_RatioField.J4 x122000 x122001 x123000 x123001) := by
  refine LimIs.step' (hushlaw1_RatioField.J3_is x125 x122000 x122001 x123000 x123001 x153000 x153001 x157000 x157001 x161000 x161001).1 (b := fun k => if x125 = true then ((hushlaw1_two.f k false x122000 x122001 x153000 x153001).bind fun bt161 => ((hushlaw1_two.f k true x157000 x157001 x161000 x161001).bind fun bt165 => (if (bt161.2.2 != bt165.2.2) = true then (some false) else (if (!(bt161.1 == bt165.1) || (!(bt161.2.1 == bt165.2.1))) = true then (some false) else (hushlaw1_RatioField.j4 k x122000 x122001 x123000 x123001))))) else (hushlaw1_RatioField.j4 k x122000 x122001 x123000 x123001)) (fun k => by first | rfl | rw [hushlaw1_RatioField.j3]) ?_
  repeat' first
    | (with_reducible exact hushlaw1_two.F_is _ _ _ _ _)
    | (with_reducible exact hushlaw1_RatioField.J4_is _ _ _ _)
    | (with_reducible exact LimIs.const _)
    | (with_reducible refine LimIs.ite ?_ ?_)
    | (with_reducible refine LimIs.bind ?_ (fun _ => ?_))
    | exact hushlaw1_two.F_is _ _ _ _ _
    | exact hushlaw1_RatioField.J4_is _ _ _ _
    | exact LimIs.const _
    | refine LimIs.ite ?_ ?_
    | refine LimIs.bind ?_ (fun _ => ?_)
set_option maxRecDepth 100000 in
theorem hushlaw1_RatioField.J4_eq (x122000 : Int) (x122001 : Int) (x123000 : Int) (x123001 : Int) : hushlaw1_RatioField.J4 x122000 x122001 x123000 x123001 = (ratio_Over.F x122000 x122001 x123000 x123001).bind fun bt169 => (if bt169.2.2 = 0 then ((hushlaw1_two.F false bt169.1 bt169.2.1 x123000 x123001).bind fun bt173 => (if bt173.2.2 = true then (if (!(bt173.1 == x122000) || (!(bt173.2.1 == x122001))) = true then (some false) else (hushlaw1_RatioField.J5 x122000 x122001 x123000 x123001)) else (some false))) else (hushlaw1_RatioField.J5 x122000 x122001 x123000 x123001)) := by
  refine LimIs.step' (hushlaw1_RatioField.J4_is x122000 x122001 x123000 x123001).1 (b := fun k => (ratio_Over.f k x122000 x122001 x123000 x123001).bind fun bt169 => (if bt169.2.2 = 0 then ((hushlaw1_two.f k false bt169.1 bt169.2.1 x123000 x123001).bind fun bt173 => (if bt173.2.2 = true then (if (!(bt173.1 == x122000) || (!(bt173.2.1 == x122001))) = true then (some false) else (hushlaw1_RatioField.j5 k x122000 x122001 x123000 x123001)) else (some false))) else (hushlaw1_RatioField.j5 k x122000 x122001 x123000 x123001))) (fun k => by first | rfl | rw [hushlaw1_RatioField.j4]) ?_
  repeat' first
    | (with_reducible exact ratio_Over.F_is _ _ _ _)
    | (with_reducible exact hushlaw1_two.F_is _ _ _ _ _)
    | (with_reducible exact hushlaw1_RatioField.J5_is _ _ _ _)
    | (with_reducible exact LimIs.const _)
    | (with_reducible refine LimIs.ite ?_ ?_)
    | (with_reducible refine LimIs.bind ?_ (fun _ => ?_))
    | exact ratio_Over.F_is _ _ _ _
    | exact hushlaw1_two.F_is _ _ _ _ _
    | exact hushlaw1_RatioField.J5_is _ _ _ _
    | exact LimIs.const _
    | refine LimIs.ite ?_ ?_
    | refine LimIs.bind ?_ (fun _ => ?_)
set_option maxRecDepth 100000 in
theorem hushlaw1_RatioField.J5_eq (x122000 : Int) (x122001 : Int) (x123000 : Int) (x123001 : Int) : hushlaw1_RatioField.J5 x122000 x122001 x123000 x123001 = (ratio_Minus.F x122000 x122001 x123000 x123001).bind fun bt177 => (if bt177.2.2 = 0 then ((hushlaw1_two.F true bt177.1 bt177.2.1 x123000 x123001).bind fun bt181 => (if bt181.2.2 = true then (if (!(bt181.1 == x122000) || (!(bt181.2.1 == x122001))) = true then (some false) else (some true)) else (some false))) else (some true)) := by
  refine LimIs.step' (hushlaw1_RatioField.J5_is x122000 x122001 x123000 x123001).1 (b := fun k => (ratio_Minus.f k x122000 x122001 x123000 x123001).bind fun bt177 => (if bt177.2.2 = 0 then ((hushlaw1_two.f k true bt177.1 bt177.2.1 x123000 x123001).bind fun bt181 => (if bt181.2.2 = true then (if (!(bt181.1 == x122000) || (!(bt181.2.1 == x122001))) = true then (some false) else (some true)) else (some false))) else (some true))) (fun k => by first | rfl | rw [hushlaw1_RatioField.j5]) ?_
  repeat' first
    | (with_reducible exact ratio_Minus.F_is _ _ _ _)
    | (with_reducible exact hushlaw1_two.F_is _ _ _ _ _)
    | (with_reducible exact LimIs.const _)
    | (with_reducible refine LimIs.ite ?_ ?_)
    | (with_reducible refine LimIs.bind ?_ (fun _ => ?_))
    | exact ratio_Minus.F_is _ _ _ _
    | exact hushlaw1_two.F_is _ _ _ _ _
    | exact LimIs.const _
    | refine LimIs.ite ?_ ?_
    | refine LimIs.bind ?_ (fun _ => ?_)
set_option maxRecDepth 100000 in
theorem hushlaw1_RatioField.F_eq (a0_0 : Int) (a0_1 : Int) (a1_0 : Int) (a1_1 : Int) (a2_0 : Int) (a2_1 : Int) : hushlaw1_RatioField.F a0_0 a0_1 a1_0 a1_1 a2_0 a2_1 = (hushlaw1_alive.F).bind fun t124 => (if t124 = true then ((some (([false, true] : List Bool) : List Bool)).bind fun y125 => (hushlaw1_RatioField.L0 y125 (y125.length : Int) 0 a0_0 a0_1 a1_0 a1_1 a2_0 a2_1)) else (some false)) := by
  refine LimIs.out (?_ : LimIs (fun k => (hushlaw1_alive.f k).bind fun t124 => (if t124 = true then ((some (([false, true] : List Bool) : List Bool)).bind fun y125 => (hushlaw1_RatioField.l0 k y125 (y125.length : Int) 0 a0_0 a0_1 a1_0 a1_1 a2_0 a2_1)) else (some false))) _)
  repeat' first
    | (with_reducible exact hushlaw1_alive.F_is)
    | (with_reducible exact hushlaw1_RatioField.L0_is _ _ _ _ _ _ _ _ _)
    | (with_reducible exact LimIs.const _)
    | (with_reducible refine LimIs.ite ?_ ?_)
    | (with_reducible refine LimIs.bind ?_ (fun _ => ?_))
    | exact hushlaw1_alive.F_is
    | exact hushlaw1_RatioField.L0_is _ _ _ _ _ _ _ _ _
    | exact LimIs.const _
    | refine LimIs.ite ?_ ?_
    | refine LimIs.bind ?_ (fun _ => ?_)
end Go.Proofs.Ytnlkacmkakgaoaa.PB

/- The pure texts of this claim, its functions behind all rounds among them, and small steps. Conditions stand in each theorem. -/
import Derived.Test.YteajcjalpofalaaPAx15
import Derived.Test.YteajcjalpofalaaLim
import Derived.Test.YteajcjalpofalaaPAx0
import Derived.Test.YteajcjalpofalaaPAx8
import Derived.Test.YteajcjalpofalaaPAx9
import Derived.Test.YteajcjalpofalaaPAx14
import Derived.Test.YteajcjalpofalaaPAx13
import Derived.Test.YteajcjalpofalaaPAx11
import Derived.Test.YteajcjalpofalaaPAx10
import Derived.Test.YteajcjalpofalaaPAx12
import Derived.Test.YteajcjalpofalaaPAx7
import Derived.Test.YteajcjalpofalaaPAx2
import Derived.Test.YteajcjalpofalaaPAx6
import Derived.Test.YteajcjalpofalaaPAx5
import Derived.Test.YteajcjalpofalaaPAx19
import Derived.Test.YteajcjalpofalaaPAx18
import Derived.Test.YteajcjalpofalaaPAx17
import Derived.Test.YteajcjalpofalaaPAx16
import Derived.Test.YteajcjalpofalaaEvKit
import Derived.Test.YteajcjalpofalaaPAx20
import Derived.Test.YteajcjalpofalaaPAx1
section
namespace Go.Proofs.Yteajcjalpofalaa.PA
set_option maxRecDepth 100000
open Go.RowKit Go.Proofs.YteajcjalpofalaaW.PrintWords Go.Proofs.YteajcjalpofalaaW.PrintLast Go.Proofs.YteajcjalpofalaaW.PrintMore
open Go.Proofs.YteajcjalpofalaaW.EvKit
set_option linter.unusedVariables false
noncomputable def hushref1_Divisor.J1 (x0 : Int) (x1 : Int) (x5 : Int) : Option (Int) := lim (fun k => hushref1_Divisor.j1 k x0 x1 x5)
theorem hushref1_Divisor.J1_is (x0 : Int) (x1 : Int) (x5 : Int) : LimIs (fun k => hushref1_Divisor.j1 k x0 x1 x5) (hushref1_Divisor.J1 x0 x1 x5) := ⟨fun k => (hushref1_Divisor.mono_l k).1 x0 x1 x5, rfl⟩
noncomputable def hushref1_Divisor.L1 (x0 : Int) (x1 : Int) (x5 : Int) : Option (Int) := lim (fun k => hushref1_Divisor.l1 k x0 x1 x5)
theorem hushref1_Divisor.L1_is (x0 : Int) (x1 : Int) (x5 : Int) : LimIs (fun k => hushref1_Divisor.l1 k x0 x1 x5) (hushref1_Divisor.L1 x0 x1 x5) := ⟨fun k => (hushref1_Divisor.mono_l k).2.1 x0 x1 x5, rfl⟩
noncomputable def hushref1_Divisor.L2 (x0 : Int) (x5 : Int) : Option (Int) := lim (fun k => hushref1_Divisor.l2 k x0 x5)
theorem hushref1_Divisor.L2_is (x0 : Int) (x5 : Int) : LimIs (fun k => hushref1_Divisor.l2 k x0 x5) (hushref1_Divisor.L2 x0 x5) := ⟨fun k => (hushref1_Divisor.mono_l k).2.2.1 x0 x5, rfl⟩
noncomputable def hushref1_Divisor.L0 (x0 : Int) (x1 : Int) (x5 : Int) : Option (Int) := lim (fun k => hushref1_Divisor.l0 k x0 x1 x5)
theorem hushref1_Divisor.L0_is (x0 : Int) (x1 : Int) (x5 : Int) : LimIs (fun k => hushref1_Divisor.l0 k x0 x1 x5) (hushref1_Divisor.L0 x0 x1 x5) := ⟨fun k => (hushref1_Divisor.mono_l k).2.2.2 x0 x1 x5, rfl⟩
noncomputable def hushref1_Divisor.F (a0 : Int) (a1 : Int) : Option (Int) := lim (fun k => hushref1_Divisor.f k a0 a1)
theorem hushref1_Divisor.F_is (a0 : Int) (a1 : Int) : LimIs (fun k => hushref1_Divisor.f k a0 a1) (hushref1_Divisor.F a0 a1) := ⟨fun k => hushref1_Divisor.mono a0 a1 k, rfl⟩
noncomputable def hushref1_Right.F (a0_0 : Int) (a0_1 : Int) : Option (Bool) := lim (fun k => hushref1_Right.f k a0_0 a0_1)
theorem hushref1_Right.F_is (a0_0 : Int) (a0_1 : Int) : LimIs (fun k => hushref1_Right.f k a0_0 a0_1) (hushref1_Right.F a0_0 a0_1) := ⟨fun k => hushref1_Right.mono a0_0 a0_1 k, rfl⟩
noncomputable def hushref11_Chance.F (a0_0 : Int) (a0_1 : Int) : Option (Int) := lim (fun k => hushref11_Chance.f k a0_0 a0_1)
theorem hushref11_Chance.F_is (a0_0 : Int) (a0_1 : Int) : LimIs (fun k => hushref11_Chance.f k a0_0 a0_1) (hushref11_Chance.F a0_0 a0_1) := ⟨fun k => hushref11_Chance.mono a0_0 a0_1 k, rfl⟩
theorem hushref1_Divisor.L1_eq (x0 : Int) (x1 : Int) (x5 : Int) : hushref1_Divisor.L1 x0 x1 x5 = if x0 = x1 then (hushref1_Divisor.L2 x0 x5) else (if (Int.tmod x0 2) = 0 then (hushref1_Divisor.L1 (wrap64 (Int.tdiv x0 2)) x1 x5) else (if (Int.tmod x1 2) = 0 then (hushref1_Divisor.L1 x0 (wrap64 (Int.tdiv x1 2)) x5) else (if x0 > x1 then (hushref1_Divisor.L1 (wrap64 (x0 - x1)) x1 x5) else (hushref1_Divisor.L1 x0 (wrap64 (x1 - x0)) x5)))) := by
 refine LimIs.step' (hushref1_Divisor.L1_is x0 x1 x5).1 (b := fun k => if x0 = x1 then (hushref1_Divisor.l2 k x0 x5) else (if (Int.tmod x0 2) = 0 then (hushref1_Divisor.l1 k (wrap64 (Int.tdiv x0 2)) x1 x5) else (if (Int.tmod x1 2) = 0 then (hushref1_Divisor.l1 k x0 (wrap64 (Int.tdiv x1 2)) x5) else (if x0 > x1 then (hushref1_Divisor.l1 k (wrap64 (x0 - x1)) x1 x5) else (hushref1_Divisor.l1 k x0 (wrap64 (x1 - x0)) x5))))) (fun k => by first | rfl | rw [hushref1_Divisor.l1]) ?_
 repeat' first
  | (with_reducible exact hushref1_Divisor.L2_is _ _)
  | (with_reducible exact hushref1_Divisor.L1_is _ _ _)
  | (with_reducible exact LimIs.const _)
  | (with_reducible refine LimIs.ite ?_ ?_)
  | (with_reducible refine LimIs.bind ?_ (fun _ => ?_))
  | exact hushref1_Divisor.L2_is _ _
  | exact hushref1_Divisor.L1_is _ _ _
  | exact LimIs.const _
  | refine LimIs.ite ?_ ?_
  | refine LimIs.bind ?_ (fun _ => ?_)
theorem hushref1_Divisor.L2_eq (x0 : Int) (x5 : Int) : hushref1_Divisor.L2 x0 x5 = if x5 > 0 then (hushref1_Divisor.L2 (wrap64 (2 * x0)) (wrap64 (x5 - 1))) else (some x0) := by
 refine LimIs.step' (hushref1_Divisor.L2_is x0 x5).1 (b := fun k => if x5 > 0 then (hushref1_Divisor.l2 k (wrap64 (2 * x0)) (wrap64 (x5 - 1))) else (some x0)) (fun k => by first | rfl | rw [hushref1_Divisor.l2]) ?_
 repeat' first
  | (with_reducible exact hushref1_Divisor.L2_is _ _)
  | (with_reducible exact LimIs.const _)
  | (with_reducible refine LimIs.ite ?_ ?_)
  | (with_reducible refine LimIs.bind ?_ (fun _ => ?_))
  | exact hushref1_Divisor.L2_is _ _
  | exact LimIs.const _
  | refine LimIs.ite ?_ ?_
  | refine LimIs.bind ?_ (fun _ => ?_)
theorem hushref1_Divisor.L0_eq (x0 : Int) (x1 : Int) (x5 : Int) : hushref1_Divisor.L0 x0 x1 x5 = if (Int.tmod x0 2) = 0 then (if (Int.tmod x1 2) = 0 then (hushref1_Divisor.L0 (wrap64 (Int.tdiv x0 2)) (wrap64 (Int.tdiv x1 2)) (wrap64 (x5 + 1))) else (hushref1_Divisor.J1 x0 x1 x5)) else (hushref1_Divisor.J1 x0 x1 x5) := by
 refine LimIs.step' (hushref1_Divisor.L0_is x0 x1 x5).1 (b := fun k => if (Int.tmod x0 2) = 0 then (if (Int.tmod x1 2) = 0 then (hushref1_Divisor.l0 k (wrap64 (Int.tdiv x0 2)) (wrap64 (Int.tdiv x1 2)) (wrap64 (x5 + 1))) else (hushref1_Divisor.j1 k x0 x1 x5)) else (hushref1_Divisor.j1 k x0 x1 x5)) (fun k => by first | rfl | rw [hushref1_Divisor.l0]) ?_
 repeat' first
  | (with_reducible exact hushref1_Divisor.L0_is _ _ _)
  | (with_reducible exact hushref1_Divisor.J1_is _ _ _)
  | (with_reducible exact LimIs.const _)
  | (with_reducible refine LimIs.ite ?_ ?_)
  | (with_reducible refine LimIs.bind ?_ (fun _ => ?_))
  | exact hushref1_Divisor.L0_is _ _ _
  | exact hushref1_Divisor.J1_is _ _ _
  | exact LimIs.const _
  | refine LimIs.ite ?_ ?_
  | refine LimIs.bind ?_ (fun _ => ?_)
theorem hushref1_Divisor.F_eq (a0 : Int) (a1 : Int) : hushref1_Divisor.F a0 a1 = if a0 = 0 then (some a1) else (hushref1_Divisor.L0 a0 a1 0) := by
 refine LimIs.out (?_ : LimIs (fun k => if a0 = 0 then (some a1) else (hushref1_Divisor.l0 k a0 a1 0)) _)
 repeat' first
  | (with_reducible exact hushref1_Divisor.L0_is _ _ _)
  | (with_reducible exact LimIs.const _)
  | (with_reducible refine LimIs.ite ?_ ?_)
  | (with_reducible refine LimIs.bind ?_ (fun _ => ?_))
  | exact hushref1_Divisor.L0_is _ _ _
  | exact LimIs.const _
  | refine LimIs.ite ?_ ?_
  | refine LimIs.bind ?_ (fun _ => ?_)
theorem hushref1_Right.F_eq (a0_0 : Int) (a0_1 : Int) : hushref1_Right.F a0_0 a0_1 = if a0_0 ≥ 0 then (if a0_1 ≥ 1 then (if a0_0 ≤ 1073741824 then (if a0_1 ≤ 1073741824 then ((hushref1_Divisor.F a0_0 a0_1).bind fun t156 => (some (t156 == 1))) else (some false)) else (some false)) else (some false)) else (some false) := by
 refine LimIs.out (?_ : LimIs (fun k => if a0_0 ≥ 0 then (if a0_1 ≥ 1 then (if a0_0 ≤ 1073741824 then (if a0_1 ≤ 1073741824 then ((hushref1_Divisor.f k a0_0 a0_1).bind fun t156 => (some (t156 == 1))) else (some false)) else (some false)) else (some false)) else (some false)) _)
 repeat' first
  | (with_reducible exact hushref1_Divisor.F_is _ _)
  | (with_reducible exact LimIs.const _)
  | (with_reducible refine LimIs.ite ?_ ?_)
  | (with_reducible refine LimIs.bind ?_ (fun _ => ?_))
  | exact hushref1_Divisor.F_is _ _
  | exact LimIs.const _
  | refine LimIs.ite ?_ ?_
  | refine LimIs.bind ?_ (fun _ => ?_)
theorem hushref11_Chance.F_eq (a0_0 : Int) (a0_1 : Int) : hushref11_Chance.F a0_0 a0_1 = (hushref1_Right.F a0_0 a0_1).bind fun t158 => (if t158 = true then (if a0_0 > a0_1 then (some (3 : Int)) else (some (0 : Int))) else (some (2 : Int))) := by
 refine LimIs.out (?_ : LimIs (fun k => (hushref1_Right.f k a0_0 a0_1).bind fun t158 => (if t158 = true then (if a0_0 > a0_1 then (some (3 : Int)) else (some (0 : Int))) else (some (2 : Int)))) _)
 repeat' first
  | (with_reducible exact hushref1_Right.F_is _ _)
  | (with_reducible exact LimIs.const _)
  | (with_reducible refine LimIs.ite ?_ ?_)
  | (with_reducible refine LimIs.bind ?_ (fun _ => ?_))
  | exact hushref1_Right.F_is _ _
  | exact LimIs.const _
  | refine LimIs.ite ?_ ?_
  | refine LimIs.bind ?_ (fun _ => ?_)
end Go.Proofs.Yteajcjalpofalaa.PA
end
section
namespace Go.Proofs.Yteajcjalpofalaa.PA
set_option maxRecDepth 100000
open Go.RowKit Go.Proofs.YteajcjalpofalaaW.PrintWords Go.Proofs.YteajcjalpofalaaW.PrintLast Go.Proofs.YteajcjalpofalaaW.PrintMore
open Go.Proofs.YteajcjalpofalaaW.EvKit
set_option linter.unusedVariables false
noncomputable def hushref6_Power.L0 (x0 : Int) (x1 : Int) (x5 : Int) (x6 : Int) : Option (Int) := lim (fun k => hushref6_Power.l0 k x0 x1 x5 x6)
theorem hushref6_Power.L0_is (x0 : Int) (x1 : Int) (x5 : Int) (x6 : Int) : LimIs (fun k => hushref6_Power.l0 k x0 x1 x5 x6) (hushref6_Power.L0 x0 x1 x5 x6) := ⟨fun k => (hushref6_Power.mono_l k) x0 x1 x5 x6, rfl⟩
noncomputable def hushref11_In.L0 (x0 : Int) (x1 : Int) (x5 : Int) : Option (Bool) := lim (fun k => hushref11_In.l0 k x0 x1 x5)
theorem hushref11_In.L0_is (x0 : Int) (x1 : Int) (x5 : Int) : LimIs (fun k => hushref11_In.l0 k x0 x1 x5) (hushref11_In.L0 x0 x1 x5) := ⟨fun k => (hushref11_In.mono_l k) x0 x1 x5, rfl⟩
noncomputable def hushref2_Small.L0 (x8 : List Int) (x9 : Int) (x10 : Int) : Option (Bool) := lim (fun k => hushref2_Small.l0 k x8 x9 x10)
theorem hushref2_Small.L0_is (x8 : List Int) (x9 : Int) (x10 : Int) : LimIs (fun k => hushref2_Small.l0 k x8 x9 x10) (hushref2_Small.L0 x8 x9 x10) := ⟨fun k => (hushref2_Small.mono_l k) x8 x9 x10, rfl⟩
noncomputable def hushref6_Power.F (a0 : Int) (a1 : Int) : Option (Int) := lim (fun k => hushref6_Power.f k a0 a1)
theorem hushref6_Power.F_is (a0 : Int) (a1 : Int) : LimIs (fun k => hushref6_Power.f k a0 a1) (hushref6_Power.F a0 a1) := ⟨fun k => hushref6_Power.mono a0 a1 k, rfl⟩
noncomputable def hushref11_In.F (a0 : Int) (a1 : Int) : Option (Bool) := lim (fun k => hushref11_In.f k a0 a1)
theorem hushref11_In.F_is (a0 : Int) (a1 : Int) : LimIs (fun k => hushref11_In.f k a0 a1) (hushref11_In.F a0 a1) := ⟨fun k => hushref11_In.mono a0 a1 k, rfl⟩
noncomputable def hushref2_Small.F (l0 : List Int) : Option (Bool) := lim (fun k => hushref2_Small.f k l0)
theorem hushref2_Small.F_is (l0 : List Int) : LimIs (fun k => hushref2_Small.f k l0) (hushref2_Small.F l0) := ⟨fun k => hushref2_Small.mono l0 k, rfl⟩
theorem hushref6_Power.L0_eq (x0 : Int) (x1 : Int) (x5 : Int) (x6 : Int) : hushref6_Power.L0 x0 x1 x5 x6 = if x6 < x1 then (if x5 ≤ 1073741824 then (hushref6_Power.L0 x0 x1 (wrap64 (x5 * x0)) (wrap64 (x6 + 1))) else (if x5 > 1073741824 then (some 1073741825) else (some x5))) else (if x5 > 1073741824 then (some 1073741825) else (some x5)) := by
 refine LimIs.step' (hushref6_Power.L0_is x0 x1 x5 x6).1 (b := fun k => if x6 < x1 then (if x5 ≤ 1073741824 then (hushref6_Power.l0 k x0 x1 (wrap64 (x5 * x0)) (wrap64 (x6 + 1))) else (if x5 > 1073741824 then (some 1073741825) else (some x5))) else (if x5 > 1073741824 then (some 1073741825) else (some x5))) (fun k => by first | rfl | rw [hushref6_Power.l0]) ?_
 repeat' first
  | (with_reducible exact hushref6_Power.L0_is _ _ _ _)
  | (with_reducible exact LimIs.const _)
  | (with_reducible refine LimIs.ite ?_ ?_)
  | (with_reducible refine LimIs.bind ?_ (fun _ => ?_))
  | exact hushref6_Power.L0_is _ _ _ _
  | exact LimIs.const _
  | refine LimIs.ite ?_ ?_
  | refine LimIs.bind ?_ (fun _ => ?_)
theorem hushref11_In.L0_eq (x0 : Int) (x1 : Int) (x5 : Int) : hushref11_In.L0 x0 x1 x5 = if x5 < x1 then (hushref11_In.L0 (wrap64 (Int.tdiv x0 2)) x1 (wrap64 (x5 + 1))) else (some ((Int.tmod x0 2) == 1)) := by
 refine LimIs.step' (hushref11_In.L0_is x0 x1 x5).1 (b := fun k => if x5 < x1 then (hushref11_In.l0 k (wrap64 (Int.tdiv x0 2)) x1 (wrap64 (x5 + 1))) else (some ((Int.tmod x0 2) == 1))) (fun k => by first | rfl | rw [hushref11_In.l0]) ?_
 repeat' first
  | (with_reducible exact hushref11_In.L0_is _ _ _)
  | (with_reducible exact LimIs.const _)
  | (with_reducible refine LimIs.ite ?_ ?_)
  | (with_reducible refine LimIs.bind ?_ (fun _ => ?_))
  | exact hushref11_In.L0_is _ _ _
  | exact LimIs.const _
  | refine LimIs.ite ?_ ?_
  | refine LimIs.bind ?_ (fun _ => ?_)
theorem hushref2_Small.L0_eq (x8 : List Int) (x9 : Int) (x10 : Int) : hushref2_Small.L0 x8 x9 x10 = if x10 < x9 then (if 0 ≤ x10 then (if x10 < (x8.length : Int) then (if (rd x8 x10) > 1073741824 then (some false) else (if (rd x8 x10) < (-1073741824) then (some false) else (hushref2_Small.L0 x8 x9 (wrap64 (x10 + 1))))) else (none)) else (none)) else (some true) := by
 refine LimIs.step' (hushref2_Small.L0_is x8 x9 x10).1 (b := fun k => if x10 < x9 then (if 0 ≤ x10 then (if x10 < (x8.length : Int) then (if (rd x8 x10) > 1073741824 then (some false) else (if (rd x8 x10) < (-1073741824) then (some false) else (hushref2_Small.l0 k x8 x9 (wrap64 (x10 + 1))))) else (none)) else (none)) else (some true)) (fun k => by first | rfl | rw [hushref2_Small.l0]) ?_
 repeat' first
  | (with_reducible exact hushref2_Small.L0_is _ _ _)
  | (with_reducible exact LimIs.const _)
  | (with_reducible refine LimIs.ite ?_ ?_)
  | (with_reducible refine LimIs.bind ?_ (fun _ => ?_))
  | exact hushref2_Small.L0_is _ _ _
  | exact LimIs.const _
  | refine LimIs.ite ?_ ?_
  | refine LimIs.bind ?_ (fun _ => ?_)
theorem hushref6_Power.F_eq (a0 : Int) (a1 : Int) : hushref6_Power.F a0 a1 = hushref6_Power.L0 a0 a1 1 0 := by
 refine LimIs.out (?_ : LimIs (fun k => hushref6_Power.l0 k a0 a1 1 0) _)
 repeat' first
  | (with_reducible exact hushref6_Power.L0_is _ _ _ _)
  | (with_reducible exact LimIs.const _)
  | (with_reducible refine LimIs.ite ?_ ?_)
  | (with_reducible refine LimIs.bind ?_ (fun _ => ?_))
  | exact hushref6_Power.L0_is _ _ _ _
  | exact LimIs.const _
  | refine LimIs.ite ?_ ?_
  | refine LimIs.bind ?_ (fun _ => ?_)
theorem hushref11_In.F_eq (a0 : Int) (a1 : Int) : hushref11_In.F a0 a1 = hushref11_In.L0 a0 a1 0 := by
 refine LimIs.out (?_ : LimIs (fun k => hushref11_In.l0 k a0 a1 0) _)
 repeat' first
  | (with_reducible exact hushref11_In.L0_is _ _ _)
  | (with_reducible exact LimIs.const _)
  | (with_reducible refine LimIs.ite ?_ ?_)
  | (with_reducible refine LimIs.bind ?_ (fun _ => ?_))
  | exact hushref11_In.L0_is _ _ _
  | exact LimIs.const _
  | refine LimIs.ite ?_ ?_
  | refine LimIs.bind ?_ (fun _ => ?_)
theorem hushref2_Small.F_eq (l0 : List Int) : hushref2_Small.F l0 = if (l0.length : Int) > 16 then (some false) else (hushref2_Small.L0 l0 (l0.length : Int) 0) := by
 refine LimIs.out (?_ : LimIs (fun k => if (l0.length : Int) > 16 then (some false) else (hushref2_Small.l0 k l0 (l0.length : Int) 0)) _)
 repeat' first
  | (with_reducible exact hushref2_Small.L0_is _ _ _)
  | (with_reducible exact LimIs.const _)
  | (with_reducible refine LimIs.ite ?_ ?_)
  | (with_reducible refine LimIs.bind ?_ (fun _ => ?_))
  | exact hushref2_Small.L0_is _ _ _
  | exact LimIs.const _
  | refine LimIs.ite ?_ ?_
  | refine LimIs.bind ?_ (fun _ => ?_)
end Go.Proofs.Yteajcjalpofalaa.PA
end
section
namespace Go.Proofs.Yteajcjalpofalaa.PA
set_option maxRecDepth 100000
open Go.RowKit Go.Proofs.YteajcjalpofalaaW.PrintWords Go.Proofs.YteajcjalpofalaaW.PrintLast Go.Proofs.YteajcjalpofalaaW.PrintMore
open Go.Proofs.YteajcjalpofalaaW.EvKit
set_option linter.unusedVariables false
noncomputable def hushref2_Compare.L0 (x0 : List Int) (x1 : List Int) (x7 : Int) (x8 : Int) : Option (Int) := lim (fun k => hushref2_Compare.l0 k x0 x1 x7 x8)
theorem hushref2_Compare.L0_is (x0 : List Int) (x1 : List Int) (x7 : Int) (x8 : Int) : LimIs (fun k => hushref2_Compare.l0 k x0 x1 x7 x8) (hushref2_Compare.L0 x0 x1 x7 x8) := ⟨fun k => (hushref2_Compare.mono_l k) x0 x1 x7 x8, rfl⟩
noncomputable def hushref2_Compare.F (l0 : List Int) (l1 : List Int) : Option (Int) := lim (fun k => hushref2_Compare.f k l0 l1)
theorem hushref2_Compare.F_is (l0 : List Int) (l1 : List Int) : LimIs (fun k => hushref2_Compare.f k l0 l1) (hushref2_Compare.F l0 l1) := ⟨fun k => hushref2_Compare.mono l0 l1 k, rfl⟩
theorem hushref2_Compare.L0_eq (x0 : List Int) (x1 : List Int) (x7 : Int) (x8 : Int) : hushref2_Compare.L0 x0 x1 x7 x8 = if x8 < x7 then (if x8 ≥ (x1.length : Int) then (some 1) else (if 0 ≤ x8 then (if x8 < (x0.length : Int) then (if x8 < (x1.length : Int) then (if (rd x0 x8) = (rd x1 x8) then (hushref2_Compare.L0 x0 x1 x7 (wrap64 (x8 + 1))) else (if (rd x0 x8) < (rd x1 x8) then (some (-1)) else (some 1))) else (none)) else (none)) else (none))) else (if (x0.length : Int) < (x1.length : Int) then (some (-1)) else (some 0)) := by
 refine LimIs.step' (hushref2_Compare.L0_is x0 x1 x7 x8).1 (b := fun k => if x8 < x7 then (if x8 ≥ (x1.length : Int) then (some 1) else (if 0 ≤ x8 then (if x8 < (x0.length : Int) then (if x8 < (x1.length : Int) then (if (rd x0 x8) = (rd x1 x8) then (hushref2_Compare.l0 k x0 x1 x7 (wrap64 (x8 + 1))) else (if (rd x0 x8) < (rd x1 x8) then (some (-1)) else (some 1))) else (none)) else (none)) else (none))) else (if (x0.length : Int) < (x1.length : Int) then (some (-1)) else (some 0))) (fun k => by first | rfl | rw [hushref2_Compare.l0]) ?_
 repeat' first
  | (with_reducible exact hushref2_Compare.L0_is _ _ _ _)
  | (with_reducible exact LimIs.const _)
  | (with_reducible refine LimIs.ite ?_ ?_)
  | (with_reducible refine LimIs.bind ?_ (fun _ => ?_))
  | exact hushref2_Compare.L0_is _ _ _ _
  | exact LimIs.const _
  | refine LimIs.ite ?_ ?_
  | refine LimIs.bind ?_ (fun _ => ?_)
theorem hushref2_Compare.F_eq (l0 : List Int) (l1 : List Int) : hushref2_Compare.F l0 l1 = hushref2_Compare.L0 l0 l1 (l0.length : Int) 0 := by
 refine LimIs.out (?_ : LimIs (fun k => hushref2_Compare.l0 k l0 l1 (l0.length : Int) 0) _)
 repeat' first
  | (with_reducible exact hushref2_Compare.L0_is _ _ _ _)
  | (with_reducible exact LimIs.const _)
  | (with_reducible refine LimIs.ite ?_ ?_)
  | (with_reducible refine LimIs.bind ?_ (fun _ => ?_))
  | exact hushref2_Compare.L0_is _ _ _ _
  | exact LimIs.const _
  | refine LimIs.ite ?_ ?_
  | refine LimIs.bind ?_ (fun _ => ?_)
end Go.Proofs.Yteajcjalpofalaa.PA
end
section
namespace Go.Proofs.Yteajcjalpofalaa.PA
set_option maxRecDepth 100000
open Go.RowKit Go.Proofs.YteajcjalpofalaaW.PrintWords Go.Proofs.YteajcjalpofalaaW.PrintLast Go.Proofs.YteajcjalpofalaaW.PrintMore
open Go.Proofs.YteajcjalpofalaaW.EvKit
set_option linter.unusedVariables false
noncomputable def hushref2_least.L0 (x1 : List Int) (x2 : Bool) (x8 : List Int) (x9 : Bool) (x12 : List (S56)) (x13 : Int) (x14 : Int) : Option (List Int × Bool) := lim (fun k => hushref2_least.l0 k x1 x2 x8 x9 x12 x13 x14)
theorem hushref2_least.L0_is (x1 : List Int) (x2 : Bool) (x8 : List Int) (x9 : Bool) (x12 : List (S56)) (x13 : Int) (x14 : Int) : LimIs (fun k => hushref2_least.l0 k x1 x2 x8 x9 x12 x13 x14) (hushref2_least.L0 x1 x2 x8 x9 x12 x13 x14) := ⟨fun k => (hushref2_least.mono_l k) x1 x2 x8 x9 x12 x13 x14, rfl⟩
noncomputable def hushref2_least.F (l0 : List (S56)) (l1 : List Int) (a2 : Bool) : Option (List Int × Bool) := lim (fun k => hushref2_least.f k l0 l1 a2)
theorem hushref2_least.F_is (l0 : List (S56)) (l1 : List Int) (a2 : Bool) : LimIs (fun k => hushref2_least.f k l0 l1 a2) (hushref2_least.F l0 l1 a2) := ⟨fun k => hushref2_least.mono l0 l1 a2 k, rfl⟩
theorem hushref2_least.L0_eq (x1 : List Int) (x2 : Bool) (x8 : List Int) (x9 : Bool) (x12 : List (S56)) (x13 : Int) (x14 : Int) : hushref2_least.L0 x1 x2 x8 x9 x12 x13 x14 = if x14 < x13 then (if 0 ≤ x14 then (if x14 < (x12.length : Int) then (if ((rd_T56 x12 x14).f1) > 0 then (if x2 = true then ((hushref2_Compare.F ((rd_T56 x12 x14).f0) x1).bind fun t166 => (if t166 > 0 then (if x9 = true then ((hushref2_Compare.F ((rd_T56 x12 x14).f0) x8).bind fun t167 => (if t167 < 0 then (hushref2_least.L0 x1 x2 ((rd_T56 x12 x14).f0) true x12 x13 (wrap64 (x14 + 1))) else (hushref2_least.L0 x1 x2 x8 x9 x12 x13 (wrap64 (x14 + 1))))) else (hushref2_least.L0 x1 x2 ((rd_T56 x12 x14).f0) true x12 x13 (wrap64 (x14 + 1)))) else (hushref2_least.L0 x1 x2 x8 x9 x12 x13 (wrap64 (x14 + 1))))) else (if x9 = true then ((hushref2_Compare.F ((rd_T56 x12 x14).f0) x8).bind fun t168 => (if t168 < 0 then (hushref2_least.L0 x1 x2 ((rd_T56 x12 x14).f0) true x12 x13 (wrap64 (x14 + 1))) else (hushref2_least.L0 x1 x2 x8 x9 x12 x13 (wrap64 (x14 + 1))))) else (hushref2_least.L0 x1 x2 ((rd_T56 x12 x14).f0) true x12 x13 (wrap64 (x14 + 1))))) else (hushref2_least.L0 x1 x2 x8 x9 x12 x13 (wrap64 (x14 + 1)))) else (none)) else (none)) else (some (x8, x9)) := by
 refine LimIs.step' (hushref2_least.L0_is x1 x2 x8 x9 x12 x13 x14).1 (b := fun k => if x14 < x13 then (if 0 ≤ x14 then (if x14 < (x12.length : Int) then (if ((rd_T56 x12 x14).f1) > 0 then (if x2 = true then ((hushref2_Compare.f k ((rd_T56 x12 x14).f0) x1).bind fun t166 => (if t166 > 0 then (if x9 = true then ((hushref2_Compare.f k ((rd_T56 x12 x14).f0) x8).bind fun t167 => (if t167 < 0 then (hushref2_least.l0 k x1 x2 ((rd_T56 x12 x14).f0) true x12 x13 (wrap64 (x14 + 1))) else (hushref2_least.l0 k x1 x2 x8 x9 x12 x13 (wrap64 (x14 + 1))))) else (hushref2_least.l0 k x1 x2 ((rd_T56 x12 x14).f0) true x12 x13 (wrap64 (x14 + 1)))) else (hushref2_least.l0 k x1 x2 x8 x9 x12 x13 (wrap64 (x14 + 1))))) else (if x9 = true then ((hushref2_Compare.f k ((rd_T56 x12 x14).f0) x8).bind fun t168 => (if t168 < 0 then (hushref2_least.l0 k x1 x2 ((rd_T56 x12 x14).f0) true x12 x13 (wrap64 (x14 + 1))) else (hushref2_least.l0 k x1 x2 x8 x9 x12 x13 (wrap64 (x14 + 1))))) else (hushref2_least.l0 k x1 x2 ((rd_T56 x12 x14).f0) true x12 x13 (wrap64 (x14 + 1))))) else (hushref2_least.l0 k x1 x2 x8 x9 x12 x13 (wrap64 (x14 + 1)))) else (none)) else (none)) else (some (x8, x9))) (fun k => by first | rfl | rw [hushref2_least.l0]) ?_
 repeat' first
  | (with_reducible exact hushref2_Compare.F_is _ _)
  | (with_reducible exact hushref2_least.L0_is _ _ _ _ _ _ _)
  | (with_reducible exact LimIs.const _)
  | (with_reducible refine LimIs.ite ?_ ?_)
  | (with_reducible refine LimIs.bind ?_ (fun _ => ?_))
  | exact hushref2_Compare.F_is _ _
  | exact hushref2_least.L0_is _ _ _ _ _ _ _
  | exact LimIs.const _
  | refine LimIs.ite ?_ ?_
  | refine LimIs.bind ?_ (fun _ => ?_)
theorem hushref2_least.F_eq (l0 : List (S56)) (l1 : List Int) (a2 : Bool) : hushref2_least.F l0 l1 a2 = hushref2_least.L0 l1 a2 ([] : List Int) false l0 (l0.length : Int) 0 := by
 refine LimIs.out (?_ : LimIs (fun k => hushref2_least.l0 k l1 a2 ([] : List Int) false l0 (l0.length : Int) 0) _)
 repeat' first
  | (with_reducible exact hushref2_least.L0_is _ _ _ _ _ _ _)
  | (with_reducible exact LimIs.const _)
  | (with_reducible refine LimIs.ite ?_ ?_)
  | (with_reducible refine LimIs.bind ?_ (fun _ => ?_))
  | exact hushref2_least.L0_is _ _ _ _ _ _ _
  | exact LimIs.const _
  | refine LimIs.ite ?_ ?_
  | refine LimIs.bind ?_ (fun _ => ?_)
end Go.Proofs.Yteajcjalpofalaa.PA
end
section
namespace Go.Proofs.Yteajcjalpofalaa.PA
set_option maxRecDepth 100000
open Go.RowKit Go.Proofs.YteajcjalpofalaaW.PrintWords Go.Proofs.YteajcjalpofalaaW.PrintLast Go.Proofs.YteajcjalpofalaaW.PrintMore
open Go.Proofs.YteajcjalpofalaaW.EvKit
set_option linter.unusedVariables false
noncomputable def hushref2_Weight.L0 (x1 : List Int) (x5 : Int) (x8 : List (S56)) (x9 : Int) (x10 : Int) : Option (Int) := lim (fun k => hushref2_Weight.l0 k x1 x5 x8 x9 x10)
theorem hushref2_Weight.L0_is (x1 : List Int) (x5 : Int) (x8 : List (S56)) (x9 : Int) (x10 : Int) : LimIs (fun k => hushref2_Weight.l0 k x1 x5 x8 x9 x10) (hushref2_Weight.L0 x1 x5 x8 x9 x10) := ⟨fun k => (hushref2_Weight.mono_l k) x1 x5 x8 x9 x10, rfl⟩
noncomputable def hushref2_Total.L0 (x3 : Int) (x6 : List (S56)) (x7 : Int) (x8 : Int) : Option (Int) := lim (fun k => hushref2_Total.l0 k x3 x6 x7 x8)
theorem hushref2_Total.L0_is (x3 : Int) (x6 : List (S56)) (x7 : Int) (x8 : Int) : LimIs (fun k => hushref2_Total.l0 k x3 x6 x7 x8) (hushref2_Total.L0 x3 x6 x7 x8) := ⟨fun k => (hushref2_Total.mono_l k) x3 x6 x7 x8, rfl⟩
noncomputable def hushref2_Weight.F (l0 : List (S56)) (l1 : List Int) : Option (Int) := lim (fun k => hushref2_Weight.f k l0 l1)
theorem hushref2_Weight.F_is (l0 : List (S56)) (l1 : List Int) : LimIs (fun k => hushref2_Weight.f k l0 l1) (hushref2_Weight.F l0 l1) := ⟨fun k => hushref2_Weight.mono l0 l1 k, rfl⟩
noncomputable def hushref2_Total.F (l0 : List (S56)) : Option (Int) := lim (fun k => hushref2_Total.f k l0)
theorem hushref2_Total.F_is (l0 : List (S56)) : LimIs (fun k => hushref2_Total.f k l0) (hushref2_Total.F l0) := ⟨fun k => hushref2_Total.mono l0 k, rfl⟩
theorem hushref2_Weight.L0_eq (x1 : List Int) (x5 : Int) (x8 : List (S56)) (x9 : Int) (x10 : Int) : hushref2_Weight.L0 x1 x5 x8 x9 x10 = if x10 < x9 then (if 0 ≤ x10 then (if x10 < (x8.length : Int) then ((hushref2_Compare.F ((rd_T56 x8 x10).f0) x1).bind fun t171 => (if t171 = 0 then (hushref2_Weight.L0 x1 (wrap64 (x5 + ((rd_T56 x8 x10).f1))) x8 x9 (wrap64 (x10 + 1))) else (hushref2_Weight.L0 x1 x5 x8 x9 (wrap64 (x10 + 1))))) else (none)) else (none)) else (some x5) := by
 refine LimIs.step' (hushref2_Weight.L0_is x1 x5 x8 x9 x10).1 (b := fun k => if x10 < x9 then (if 0 ≤ x10 then (if x10 < (x8.length : Int) then ((hushref2_Compare.f k ((rd_T56 x8 x10).f0) x1).bind fun t171 => (if t171 = 0 then (hushref2_Weight.l0 k x1 (wrap64 (x5 + ((rd_T56 x8 x10).f1))) x8 x9 (wrap64 (x10 + 1))) else (hushref2_Weight.l0 k x1 x5 x8 x9 (wrap64 (x10 + 1))))) else (none)) else (none)) else (some x5)) (fun k => by first | rfl | rw [hushref2_Weight.l0]) ?_
 repeat' first
  | (with_reducible exact hushref2_Compare.F_is _ _)
  | (with_reducible exact hushref2_Weight.L0_is _ _ _ _ _)
  | (with_reducible exact LimIs.const _)
  | (with_reducible refine LimIs.ite ?_ ?_)
  | (with_reducible refine LimIs.bind ?_ (fun _ => ?_))
  | exact hushref2_Compare.F_is _ _
  | exact hushref2_Weight.L0_is _ _ _ _ _
  | exact LimIs.const _
  | refine LimIs.ite ?_ ?_
  | refine LimIs.bind ?_ (fun _ => ?_)
theorem hushref2_Total.L0_eq (x3 : Int) (x6 : List (S56)) (x7 : Int) (x8 : Int) : hushref2_Total.L0 x3 x6 x7 x8 = if x8 < x7 then (if 0 ≤ x8 then (if x8 < (x6.length : Int) then (hushref2_Total.L0 (wrap64 (x3 + ((rd_T56 x6 x8).f1))) x6 x7 (wrap64 (x8 + 1))) else (none)) else (none)) else (some x3) := by
 refine LimIs.step' (hushref2_Total.L0_is x3 x6 x7 x8).1 (b := fun k => if x8 < x7 then (if 0 ≤ x8 then (if x8 < (x6.length : Int) then (hushref2_Total.l0 k (wrap64 (x3 + ((rd_T56 x6 x8).f1))) x6 x7 (wrap64 (x8 + 1))) else (none)) else (none)) else (some x3)) (fun k => by first | rfl | rw [hushref2_Total.l0]) ?_
 repeat' first
  | (with_reducible exact hushref2_Total.L0_is _ _ _ _)
  | (with_reducible exact LimIs.const _)
  | (with_reducible refine LimIs.ite ?_ ?_)
  | (with_reducible refine LimIs.bind ?_ (fun _ => ?_))
  | exact hushref2_Total.L0_is _ _ _ _
  | exact LimIs.const _
  | refine LimIs.ite ?_ ?_
  | refine LimIs.bind ?_ (fun _ => ?_)
theorem hushref2_Weight.F_eq (l0 : List (S56)) (l1 : List Int) : hushref2_Weight.F l0 l1 = hushref2_Weight.L0 l1 0 l0 (l0.length : Int) 0 := by
 refine LimIs.out (?_ : LimIs (fun k => hushref2_Weight.l0 k l1 0 l0 (l0.length : Int) 0) _)
 repeat' first
  | (with_reducible exact hushref2_Weight.L0_is _ _ _ _ _)
  | (with_reducible exact LimIs.const _)
  | (with_reducible refine LimIs.ite ?_ ?_)
  | (with_reducible refine LimIs.bind ?_ (fun _ => ?_))
  | exact hushref2_Weight.L0_is _ _ _ _ _
  | exact LimIs.const _
  | refine LimIs.ite ?_ ?_
  | refine LimIs.bind ?_ (fun _ => ?_)
theorem hushref2_Total.F_eq (l0 : List (S56)) : hushref2_Total.F l0 = hushref2_Total.L0 0 l0 (l0.length : Int) 0 := by
 refine LimIs.out (?_ : LimIs (fun k => hushref2_Total.l0 k 0 l0 (l0.length : Int) 0) _)
 repeat' first
  | (with_reducible exact hushref2_Total.L0_is _ _ _ _)
  | (with_reducible exact LimIs.const _)
  | (with_reducible refine LimIs.ite ?_ ?_)
  | (with_reducible refine LimIs.bind ?_ (fun _ => ?_))
  | exact hushref2_Total.L0_is _ _ _ _
  | exact LimIs.const _
  | refine LimIs.ite ?_ ?_
  | refine LimIs.bind ?_ (fun _ => ?_)
end Go.Proofs.Yteajcjalpofalaa.PA
end
section
namespace Go.Proofs.Yteajcjalpofalaa.PA
set_option maxRecDepth 100000
open Go.RowKit Go.Proofs.YteajcjalpofalaaW.PrintWords Go.Proofs.YteajcjalpofalaaW.PrintLast Go.Proofs.YteajcjalpofalaaW.PrintMore
open Go.Proofs.YteajcjalpofalaaW.EvKit
set_option linter.unusedVariables false
noncomputable def hushref2_Tidy.L0 (x0 : List (S56)) (x4 : List (S56)) (x5 : List Int) (x6 : Bool) : Option ((List (S56)) × Int) := lim (fun k => hushref2_Tidy.l0 k x0 x4 x5 x6)
theorem hushref2_Tidy.L0_is (x0 : List (S56)) (x4 : List (S56)) (x5 : List Int) (x6 : Bool) : LimIs (fun k => hushref2_Tidy.l0 k x0 x4 x5 x6) (hushref2_Tidy.L0 x0 x4 x5 x6) := ⟨fun k => (hushref2_Tidy.mono_l k).1 x0 x4 x5 x6, rfl⟩
noncomputable def hushref2_Tidy.L1 (x4 : List (S56)) (x7 : Int) (x38 : List (S56)) (x39 : Int) (x40 : Int) : Option ((List (S56)) × Int) := lim (fun k => hushref2_Tidy.l1 k x4 x7 x38 x39 x40)
theorem hushref2_Tidy.L1_is (x4 : List (S56)) (x7 : Int) (x38 : List (S56)) (x39 : Int) (x40 : Int) : LimIs (fun k => hushref2_Tidy.l1 k x4 x7 x38 x39 x40) (hushref2_Tidy.L1 x4 x7 x38 x39 x40) := ⟨fun k => (hushref2_Tidy.mono_l k).2.1 x4 x7 x38 x39 x40, rfl⟩
noncomputable def hushref2_Tidy.J2 (x4 : List (S56)) (x7 : Int) (x58 : Bool) : Option ((List (S56)) × Int) := lim (fun k => hushref2_Tidy.j2 k x4 x7 x58)
theorem hushref2_Tidy.J2_is (x4 : List (S56)) (x7 : Int) (x58 : Bool) : LimIs (fun k => hushref2_Tidy.j2 k x4 x7 x58) (hushref2_Tidy.J2 x4 x7 x58) := ⟨fun k => (hushref2_Tidy.mono_l k).2.2.1 x4 x7 x58, rfl⟩
noncomputable def hushref2_Tidy.L2 (x4 : List (S56)) (x7 : Int) (x60 : Int) (x61 : Int) : Option ((List (S56)) × Int) := lim (fun k => hushref2_Tidy.l2 k x4 x7 x60 x61)
theorem hushref2_Tidy.L2_is (x4 : List (S56)) (x7 : Int) (x60 : Int) (x61 : Int) : LimIs (fun k => hushref2_Tidy.l2 k x4 x7 x60 x61) (hushref2_Tidy.L2 x4 x7 x60 x61) := ⟨fun k => (hushref2_Tidy.mono_l k).2.2.2 x4 x7 x60 x61, rfl⟩
noncomputable def hushref2_Tidy.F (l0 : List (S56)) : Option ((List (S56)) × Int) := lim (fun k => hushref2_Tidy.f k l0)
theorem hushref2_Tidy.F_is (l0 : List (S56)) : LimIs (fun k => hushref2_Tidy.f k l0) (hushref2_Tidy.F l0) := ⟨fun k => hushref2_Tidy.mono l0 k, rfl⟩
theorem hushref2_Tidy.L0_eq (x0 : List (S56)) (x4 : List (S56)) (x5 : List Int) (x6 : Bool) : hushref2_Tidy.L0 x0 x4 x5 x6 = if x6 = true then ((hushref2_Weight.F x0 x5).bind fun t178 => (if x4.length < 4398046511104 then ((hushref2_least.F x0 x5 true).bind fun bt182 => (hushref2_Tidy.L0 x0 (x4 ++ [(⟨x5, t178⟩ : S56)]) bt182.1 bt182.2)) else (none))) else (if (x4.length : Int) = 0 then (some (([] : List (S56)), 6)) else (if 0 < (x4.length : Int) then (hushref2_Tidy.L1 x4 ((rd_T56 x4 0).f1) x4 (x4.length : Int) 0) else (none))) := by
 refine LimIs.step' (hushref2_Tidy.L0_is x0 x4 x5 x6).1 (b := fun k => if x6 = true then ((hushref2_Weight.f k x0 x5).bind fun t178 => (if x4.length < 4398046511104 then ((hushref2_least.f k x0 x5 true).bind fun bt182 => (hushref2_Tidy.l0 k x0 (x4 ++ [(⟨x5, t178⟩ : S56)]) bt182.1 bt182.2)) else (none))) else (if (x4.length : Int) = 0 then (some (([] : List (S56)), 6)) else (if 0 < (x4.length : Int) then (hushref2_Tidy.l1 k x4 ((rd_T56 x4 0).f1) x4 (x4.length : Int) 0) else (none)))) (fun k => by first | rfl | rw [hushref2_Tidy.l0]) ?_
 repeat' first
  | (with_reducible exact hushref2_Weight.F_is _ _)
  | (with_reducible exact hushref2_least.F_is _ _ _)
  | (with_reducible exact hushref2_Tidy.L0_is _ _ _ _)
  | (with_reducible exact hushref2_Tidy.L1_is _ _ _ _ _)
  | (with_reducible exact LimIs.const _)
  | (with_reducible refine LimIs.ite ?_ ?_)
  | (with_reducible refine LimIs.bind ?_ (fun _ => ?_))
  | exact hushref2_Weight.F_is _ _
  | exact hushref2_least.F_is _ _ _
  | exact hushref2_Tidy.L0_is _ _ _ _
  | exact hushref2_Tidy.L1_is _ _ _ _ _
  | exact LimIs.const _
  | refine LimIs.ite ?_ ?_
  | refine LimIs.bind ?_ (fun _ => ?_)
theorem hushref2_Tidy.L1_eq (x4 : List (S56)) (x7 : Int) (x38 : List (S56)) (x39 : Int) (x40 : Int) : hushref2_Tidy.L1 x4 x7 x38 x39 x40 = if x40 < x39 then (if 0 ≤ x40 then (if x40 < (x38.length : Int) then ((hushref1_Divisor.F ((rd_T56 x38 x40).f1) x7).bind fun t189 => (hushref2_Tidy.L1 x4 t189 x38 x39 (wrap64 (x40 + 1)))) else (none)) else (none)) else ((hushref2_Total.F x4).bind fun t190 => (if x7 = 0 then (none) else (if (wrap64 (Int.tdiv t190 x7)) > 1073741824 then (hushref2_Tidy.J2 x4 x7 true) else (hushref2_Tidy.J2 x4 x7 (decide ((x4.length : Int) > 4096)))))) := by
 refine LimIs.step' (hushref2_Tidy.L1_is x4 x7 x38 x39 x40).1 (b := fun k => if x40 < x39 then (if 0 ≤ x40 then (if x40 < (x38.length : Int) then ((hushref1_Divisor.f k ((rd_T56 x38 x40).f1) x7).bind fun t189 => (hushref2_Tidy.l1 k x4 t189 x38 x39 (wrap64 (x40 + 1)))) else (none)) else (none)) else ((hushref2_Total.f k x4).bind fun t190 => (if x7 = 0 then (none) else (if (wrap64 (Int.tdiv t190 x7)) > 1073741824 then (hushref2_Tidy.j2 k x4 x7 true) else (hushref2_Tidy.j2 k x4 x7 (decide ((x4.length : Int) > 4096))))))) (fun k => by first | rfl | rw [hushref2_Tidy.l1]) ?_
 repeat' first
  | (with_reducible exact hushref1_Divisor.F_is _ _)
  | (with_reducible exact hushref2_Tidy.L1_is _ _ _ _ _)
  | (with_reducible exact hushref2_Total.F_is _)
  | (with_reducible exact hushref2_Tidy.J2_is _ _ _)
  | (with_reducible exact LimIs.const _)
  | (with_reducible refine LimIs.ite ?_ ?_)
  | (with_reducible refine LimIs.bind ?_ (fun _ => ?_))
  | exact hushref1_Divisor.F_is _ _
  | exact hushref2_Tidy.L1_is _ _ _ _ _
  | exact hushref2_Total.F_is _
  | exact hushref2_Tidy.J2_is _ _ _
  | exact LimIs.const _
  | refine LimIs.ite ?_ ?_
  | refine LimIs.bind ?_ (fun _ => ?_)
theorem hushref2_Tidy.J2_eq (x4 : List (S56)) (x7 : Int) (x58 : Bool) : hushref2_Tidy.J2 x4 x7 x58 = if x58 = true then (some (([] : List (S56)), 4)) else (hushref2_Tidy.L2 x4 x7 (x4.length : Int) 0) := by
 refine LimIs.step' (hushref2_Tidy.J2_is x4 x7 x58).1 (b := fun k => if x58 = true then (some (([] : List (S56)), 4)) else (hushref2_Tidy.l2 k x4 x7 (x4.length : Int) 0)) (fun k => by first | rfl | rw [hushref2_Tidy.j2]) ?_
 repeat' first
  | (with_reducible exact hushref2_Tidy.L2_is _ _ _ _)
  | (with_reducible exact LimIs.const _)
  | (with_reducible refine LimIs.ite ?_ ?_)
  | (with_reducible refine LimIs.bind ?_ (fun _ => ?_))
  | exact hushref2_Tidy.L2_is _ _ _ _
  | exact LimIs.const _
  | refine LimIs.ite ?_ ?_
  | refine LimIs.bind ?_ (fun _ => ?_)
theorem hushref2_Tidy.L2_eq (x4 : List (S56)) (x7 : Int) (x60 : Int) (x61 : Int) : hushref2_Tidy.L2 x4 x7 x60 x61 = if x61 < x60 then (if 0 ≤ x61 then (if x61 < (x4.length : Int) then (if x7 = 0 then (none) else (hushref2_Tidy.L2 (x4.set (x61 : Int).toNat (⟨(rd_T56 x4 x61).f0, wrap64 (Int.tdiv ((rd_T56 x4 x61).f1) x7)⟩ : S56)) x7 x60 (wrap64 (x61 + 1)))) else (none)) else (none)) else (some (x4, 0)) := by
 refine LimIs.step' (hushref2_Tidy.L2_is x4 x7 x60 x61).1 (b := fun k => if x61 < x60 then (if 0 ≤ x61 then (if x61 < (x4.length : Int) then (if x7 = 0 then (none) else (hushref2_Tidy.l2 k (x4.set (x61 : Int).toNat (⟨(rd_T56 x4 x61).f0, wrap64 (Int.tdiv ((rd_T56 x4 x61).f1) x7)⟩ : S56)) x7 x60 (wrap64 (x61 + 1)))) else (none)) else (none)) else (some (x4, 0))) (fun k => by first | rfl | rw [hushref2_Tidy.l2]) ?_
 repeat' first
  | (with_reducible exact hushref2_Tidy.L2_is _ _ _ _)
  | (with_reducible exact LimIs.const _)
  | (with_reducible refine LimIs.ite ?_ ?_)
  | (with_reducible refine LimIs.bind ?_ (fun _ => ?_))
  | exact hushref2_Tidy.L2_is _ _ _ _
  | exact LimIs.const _
  | refine LimIs.ite ?_ ?_
  | refine LimIs.bind ?_ (fun _ => ?_)
theorem hushref2_Tidy.F_eq (l0 : List (S56)) : hushref2_Tidy.F l0 = (hushref2_least.F l0 ([] : List Int) false).bind fun bt174 => (hushref2_Tidy.L0 l0 ([] : List (S56)) bt174.1 bt174.2) := by
 refine LimIs.out (?_ : LimIs (fun k => (hushref2_least.f k l0 ([] : List Int) false).bind fun bt174 => (hushref2_Tidy.l0 k l0 ([] : List (S56)) bt174.1 bt174.2)) _)
 repeat' first
  | (with_reducible exact hushref2_least.F_is _ _ _)
  | (with_reducible exact hushref2_Tidy.L0_is _ _ _ _)
  | (with_reducible exact LimIs.const _)
  | (with_reducible refine LimIs.ite ?_ ?_)
  | (with_reducible refine LimIs.bind ?_ (fun _ => ?_))
  | exact hushref2_least.F_is _ _ _
  | exact hushref2_Tidy.L0_is _ _ _ _
  | exact LimIs.const _
  | refine LimIs.ite ?_ ?_
  | refine LimIs.bind ?_ (fun _ => ?_)
end Go.Proofs.Yteajcjalpofalaa.PA
end
section
namespace Go.Proofs.Yteajcjalpofalaa.PA
set_option maxRecDepth 100000
open Go.RowKit Go.Proofs.YteajcjalpofalaaW.PrintWords Go.Proofs.YteajcjalpofalaaW.PrintLast Go.Proofs.YteajcjalpofalaaW.PrintMore
open Go.Proofs.YteajcjalpofalaaW.EvKit
set_option linter.unusedVariables false
noncomputable def hushref2_Make.L0 (x0 : List (S56)) (x6 : List (S56)) (x7 : Int) (x8 : Int) : Option ((List (S56)) × Int) := lim (fun k => hushref2_Make.l0 k x0 x6 x7 x8)
theorem hushref2_Make.L0_is (x0 : List (S56)) (x6 : List (S56)) (x7 : Int) (x8 : Int) : LimIs (fun k => hushref2_Make.l0 k x0 x6 x7 x8) (hushref2_Make.L0 x0 x6 x7 x8) := ⟨fun k => (hushref2_Make.mono_l k) x0 x6 x7 x8, rfl⟩
noncomputable def hushref2_Make.F (l0 : List (S56)) : Option ((List (S56)) × Int) := lim (fun k => hushref2_Make.f k l0)
theorem hushref2_Make.F_is (l0 : List (S56)) : LimIs (fun k => hushref2_Make.f k l0) (hushref2_Make.F l0) := ⟨fun k => hushref2_Make.mono l0 k, rfl⟩
theorem hushref2_Make.L0_eq (x0 : List (S56)) (x6 : List (S56)) (x7 : Int) (x8 : Int) : hushref2_Make.L0 x0 x6 x7 x8 = if x8 < x7 then (if 0 ≤ x8 then (if x8 < (x6.length : Int) then ((hushref2_Small.F ((rd_T56 x6 x8).f0)).bind fun t195 => (if t195 = true then (if ((rd_T56 x6 x8).f1) < 0 then (some (([] : List (S56)), 3)) else (if ((rd_T56 x6 x8).f1) > 1073741824 then (some (([] : List (S56)), 3)) else (hushref2_Make.L0 x0 x6 x7 (wrap64 (x8 + 1))))) else (some (([] : List (S56)), 3)))) else (none)) else (none)) else ((hushref2_Tidy.F x0).bind fun bt196 => (some (bt196.1, bt196.2))) := by
 refine LimIs.step' (hushref2_Make.L0_is x0 x6 x7 x8).1 (b := fun k => if x8 < x7 then (if 0 ≤ x8 then (if x8 < (x6.length : Int) then ((hushref2_Small.f k ((rd_T56 x6 x8).f0)).bind fun t195 => (if t195 = true then (if ((rd_T56 x6 x8).f1) < 0 then (some (([] : List (S56)), 3)) else (if ((rd_T56 x6 x8).f1) > 1073741824 then (some (([] : List (S56)), 3)) else (hushref2_Make.l0 k x0 x6 x7 (wrap64 (x8 + 1))))) else (some (([] : List (S56)), 3)))) else (none)) else (none)) else ((hushref2_Tidy.f k x0).bind fun bt196 => (some (bt196.1, bt196.2)))) (fun k => by first | rfl | rw [hushref2_Make.l0]) ?_
 repeat' first
  | (with_reducible exact hushref2_Small.F_is _)
  | (with_reducible exact hushref2_Make.L0_is _ _ _ _)
  | (with_reducible exact hushref2_Tidy.F_is _)
  | (with_reducible exact LimIs.const _)
  | (with_reducible refine LimIs.ite ?_ ?_)
  | (with_reducible refine LimIs.bind ?_ (fun _ => ?_))
  | exact hushref2_Small.F_is _
  | exact hushref2_Make.L0_is _ _ _ _
  | exact hushref2_Tidy.F_is _
  | exact LimIs.const _
  | refine LimIs.ite ?_ ?_
  | refine LimIs.bind ?_ (fun _ => ?_)
theorem hushref2_Make.F_eq (l0 : List (S56)) : hushref2_Make.F l0 = hushref2_Make.L0 l0 l0 (l0.length : Int) 0 := by
 refine LimIs.out (?_ : LimIs (fun k => hushref2_Make.l0 k l0 l0 (l0.length : Int) 0) _)
 repeat' first
  | (with_reducible exact hushref2_Make.L0_is _ _ _ _)
  | (with_reducible exact LimIs.const _)
  | (with_reducible refine LimIs.ite ?_ ?_)
  | (with_reducible refine LimIs.bind ?_ (fun _ => ?_))
  | exact hushref2_Make.L0_is _ _ _ _
  | exact LimIs.const _
  | refine LimIs.ite ?_ ?_
  | refine LimIs.bind ?_ (fun _ => ?_)
end Go.Proofs.Yteajcjalpofalaa.PA
end
section
namespace Go.Proofs.Yteajcjalpofalaa.PA
set_option maxRecDepth 100000
open Go.RowKit Go.Proofs.YteajcjalpofalaaW.PrintWords Go.Proofs.YteajcjalpofalaaW.PrintLast Go.Proofs.YteajcjalpofalaaW.PrintMore
open Go.Proofs.YteajcjalpofalaaW.EvKit
set_option linter.unusedVariables false
noncomputable def hushref11_Subsets.J0 (x1 : Int) (x21 : Bool) (x201000 : Int) (x201001 : Int) : Option ((List (S56)) × Int) := lim (fun k => hushref11_Subsets.j0 k x1 x21 x201000 x201001)
theorem hushref11_Subsets.J0_is (x1 : Int) (x21 : Bool) (x201000 : Int) (x201001 : Int) : LimIs (fun k => hushref11_Subsets.j0 k x1 x21 x201000 x201001) (hushref11_Subsets.J0 x1 x21 x201000 x201001) := ⟨fun k => (hushref11_Subsets.mono_l k).1 x1 x21 x201000 x201001, rfl⟩
noncomputable def hushref11_Subsets.L0 (x1 : Int) (x7 : List (S56)) (x8 : Int) (x201000 : Int) (x201001 : Int) : Option ((List (S56)) × Int) := lim (fun k => hushref11_Subsets.l0 k x1 x7 x8 x201000 x201001)
theorem hushref11_Subsets.L0_is (x1 : Int) (x7 : List (S56)) (x8 : Int) (x201000 : Int) (x201001 : Int) : LimIs (fun k => hushref11_Subsets.l0 k x1 x7 x8 x201000 x201001) (hushref11_Subsets.L0 x1 x7 x8 x201000 x201001) := ⟨fun k => (hushref11_Subsets.mono_l k).2.1 x1 x7 x8 x201000 x201001, rfl⟩
noncomputable def hushref11_Subsets.L1 (x1 : Int) (x7 : List (S56)) (x8 : Int) (x9 : Int) (x10 : Int) (x201000 : Int) (x201001 : Int) : Option ((List (S56)) × Int) := lim (fun k => hushref11_Subsets.l1 k x1 x7 x8 x9 x10 x201000 x201001)
theorem hushref11_Subsets.L1_is (x1 : Int) (x7 : List (S56)) (x8 : Int) (x9 : Int) (x10 : Int) (x201000 : Int) (x201001 : Int) : LimIs (fun k => hushref11_Subsets.l1 k x1 x7 x8 x9 x10 x201000 x201001) (hushref11_Subsets.L1 x1 x7 x8 x9 x10 x201000 x201001) := ⟨fun k => (hushref11_Subsets.mono_l k).2.2 x1 x7 x8 x9 x10 x201000 x201001, rfl⟩
noncomputable def hushref11_Subsets.F (a0_0 : Int) (a0_1 : Int) (a1 : Int) : Option ((List (S56)) × Int) := lim (fun k => hushref11_Subsets.f k a0_0 a0_1 a1)
theorem hushref11_Subsets.F_is (a0_0 : Int) (a0_1 : Int) (a1 : Int) : LimIs (fun k => hushref11_Subsets.f k a0_0 a0_1 a1) (hushref11_Subsets.F a0_0 a0_1 a1) := ⟨fun k => hushref11_Subsets.mono a0_0 a0_1 a1 k, rfl⟩
theorem hushref11_Subsets.J0_eq (x1 : Int) (x21 : Bool) (x201000 : Int) (x201001 : Int) : hushref11_Subsets.J0 x1 x21 x201000 x201001 = if x21 = true then (some (([] : List (S56)), 5)) else ((hushref6_Power.F x201001 x1).bind fun t202 => (if t202 > 1073741824 then (some (([] : List (S56)), 4)) else (hushref11_Subsets.L0 x1 ([] : List (S56)) 0 x201000 x201001))) := by
 refine LimIs.step' (hushref11_Subsets.J0_is x1 x21 x201000 x201001).1 (b := fun k => if x21 = true then (some (([] : List (S56)), 5)) else ((hushref6_Power.f k x201001 x1).bind fun t202 => (if t202 > 1073741824 then (some (([] : List (S56)), 4)) else (hushref11_Subsets.l0 k x1 ([] : List (S56)) 0 x201000 x201001)))) (fun k => by first | rfl | rw [hushref11_Subsets.j0]) ?_
 repeat' first
  | (with_reducible exact hushref6_Power.F_is _ _)
  | (with_reducible exact hushref11_Subsets.L0_is _ _ _ _ _)
  | (with_reducible exact LimIs.const _)
  | (with_reducible refine LimIs.ite ?_ ?_)
  | (with_reducible refine LimIs.bind ?_ (fun _ => ?_))
  | exact hushref6_Power.F_is _ _
  | exact hushref11_Subsets.L0_is _ _ _ _ _
  | exact LimIs.const _
  | refine LimIs.ite ?_ ?_
  | refine LimIs.bind ?_ (fun _ => ?_)
theorem hushref11_Subsets.L0_eq (x1 : Int) (x7 : List (S56)) (x8 : Int) (x201000 : Int) (x201001 : Int) : hushref11_Subsets.L0 x1 x7 x8 x201000 x201001 = (hushref6_Power.F 2 x1).bind fun t203 => (if x8 < t203 then (hushref11_Subsets.L1 x1 x7 x8 1 0 x201000 x201001) else ((hushref2_Make.F x7).bind fun bt204 => (some (bt204.1, bt204.2)))) := by
 refine LimIs.step' (hushref11_Subsets.L0_is x1 x7 x8 x201000 x201001).1 (b := fun k => (hushref6_Power.f k 2 x1).bind fun t203 => (if x8 < t203 then (hushref11_Subsets.l1 k x1 x7 x8 1 0 x201000 x201001) else ((hushref2_Make.f k x7).bind fun bt204 => (some (bt204.1, bt204.2))))) (fun k => by first | rfl | rw [hushref11_Subsets.l0]) ?_
 repeat' first
  | (with_reducible exact hushref6_Power.F_is _ _)
  | (with_reducible exact hushref11_Subsets.L1_is _ _ _ _ _ _ _)
  | (with_reducible exact hushref2_Make.F_is _)
  | (with_reducible exact LimIs.const _)
  | (with_reducible refine LimIs.ite ?_ ?_)
  | (with_reducible refine LimIs.bind ?_ (fun _ => ?_))
  | exact hushref6_Power.F_is _ _
  | exact hushref11_Subsets.L1_is _ _ _ _ _ _ _
  | exact hushref2_Make.F_is _
  | exact LimIs.const _
  | refine LimIs.ite ?_ ?_
  | refine LimIs.bind ?_ (fun _ => ?_)
theorem hushref11_Subsets.L1_eq (x1 : Int) (x7 : List (S56)) (x8 : Int) (x9 : Int) (x10 : Int) (x201000 : Int) (x201001 : Int) : hushref11_Subsets.L1 x1 x7 x8 x9 x10 x201000 x201001 = if x10 < x1 then ((hushref11_In.F x8 x10).bind fun t208 => (if t208 = true then (hushref11_Subsets.L1 x1 x7 x8 (wrap64 (x9 * x201000)) (wrap64 (x10 + 1)) x201000 x201001) else (hushref11_Subsets.L1 x1 x7 x8 (wrap64 (x9 * (wrap64 (x201001 - x201000)))) (wrap64 (x10 + 1)) x201000 x201001))) else (if x7.length < 4398046511104 then (hushref11_Subsets.L0 x1 (x7 ++ [(⟨(([x8] : List Int)), x9⟩ : S56)]) (wrap64 (x8 + 1)) x201000 x201001) else (none)) := by
 refine LimIs.step' (hushref11_Subsets.L1_is x1 x7 x8 x9 x10 x201000 x201001).1 (b := fun k => if x10 < x1 then ((hushref11_In.f k x8 x10).bind fun t208 => (if t208 = true then (hushref11_Subsets.l1 k x1 x7 x8 (wrap64 (x9 * x201000)) (wrap64 (x10 + 1)) x201000 x201001) else (hushref11_Subsets.l1 k x1 x7 x8 (wrap64 (x9 * (wrap64 (x201001 - x201000)))) (wrap64 (x10 + 1)) x201000 x201001))) else (if x7.length < 4398046511104 then (hushref11_Subsets.l0 k x1 (x7 ++ [(⟨(([x8] : List Int)), x9⟩ : S56)]) (wrap64 (x8 + 1)) x201000 x201001) else (none))) (fun k => by first | rfl | rw [hushref11_Subsets.l1]) ?_
 repeat' first
  | (with_reducible exact hushref11_In.F_is _ _)
  | (with_reducible exact hushref11_Subsets.L1_is _ _ _ _ _ _ _)
  | (with_reducible exact hushref11_Subsets.L0_is _ _ _ _ _)
  | (with_reducible exact LimIs.const _)
  | (with_reducible refine LimIs.ite ?_ ?_)
  | (with_reducible refine LimIs.bind ?_ (fun _ => ?_))
  | exact hushref11_In.F_is _ _
  | exact hushref11_Subsets.L1_is _ _ _ _ _ _ _
  | exact hushref11_Subsets.L0_is _ _ _ _ _
  | exact LimIs.const _
  | refine LimIs.ite ?_ ?_
  | refine LimIs.bind ?_ (fun _ => ?_)
theorem hushref11_Subsets.F_eq (a0_0 : Int) (a0_1 : Int) (a1 : Int) : hushref11_Subsets.F a0_0 a0_1 a1 = (hushref11_Chance.F a0_0 a0_1).bind fun t201 => (if t201 = 0 then (if a1 < 0 then (hushref11_Subsets.J0 a1 true a0_0 a0_1) else (hushref11_Subsets.J0 a1 (decide (a1 > 10)) a0_0 a0_1)) else (some (([] : List (S56)), t201))) := by
 refine LimIs.out (?_ : LimIs (fun k => (hushref11_Chance.f k a0_0 a0_1).bind fun t201 => (if t201 = 0 then (if a1 < 0 then (hushref11_Subsets.j0 k a1 true a0_0 a0_1) else (hushref11_Subsets.j0 k a1 (decide (a1 > 10)) a0_0 a0_1)) else (some (([] : List (S56)), t201)))) _)
 repeat' first
  | (with_reducible exact hushref11_Chance.F_is _ _)
  | (with_reducible exact hushref11_Subsets.J0_is _ _ _ _)
  | (with_reducible exact LimIs.const _)
  | (with_reducible refine LimIs.ite ?_ ?_)
  | (with_reducible refine LimIs.bind ?_ (fun _ => ?_))
  | exact hushref11_Chance.F_is _ _
  | exact hushref11_Subsets.J0_is _ _ _ _
  | exact LimIs.const _
  | refine LimIs.ite ?_ ?_
  | refine LimIs.bind ?_ (fun _ => ?_)
end Go.Proofs.Yteajcjalpofalaa.PA
end
section
namespace Go.Proofs.Yteajcjalpofalaa.PA
set_option maxRecDepth 100000
open Go.RowKit Go.Proofs.YteajcjalpofalaaW.PrintWords Go.Proofs.YteajcjalpofalaaW.PrintLast Go.Proofs.YteajcjalpofalaaW.PrintMore
open Go.Proofs.YteajcjalpofalaaW.EvKit
set_option linter.unusedVariables false
noncomputable def ratio_gcd.L0 (x0 : Int) (x1 : Int) : Option (Int) := lim (fun k => ratio_gcd.l0 k x0 x1)
theorem ratio_gcd.L0_is (x0 : Int) (x1 : Int) : LimIs (fun k => ratio_gcd.l0 k x0 x1) (ratio_gcd.L0 x0 x1) := ⟨fun k => (ratio_gcd.mono_l k) x0 x1, rfl⟩
noncomputable def slices_IndexFunc_int_int.L0 (x0 : List Int) (x7 : Int) (x8 : Int) : Option (Int) := lim (fun k => slices_IndexFunc_int_int.l0 k x0 x7 x8)
theorem slices_IndexFunc_int_int.L0_is (x0 : List Int) (x7 : Int) (x8 : Int) : LimIs (fun k => slices_IndexFunc_int_int.l0 k x0 x7 x8) (slices_IndexFunc_int_int.L0 x0 x7 x8) := ⟨fun k => (slices_IndexFunc_int_int.mono_l k) x0 x7 x8, rfl⟩
noncomputable def ratio_gcd.F (a0 : Int) (a1 : Int) : Option (Int) := lim (fun k => ratio_gcd.f k a0 a1)
theorem ratio_gcd.F_is (a0 : Int) (a1 : Int) : LimIs (fun k => ratio_gcd.f k a0 a1) (ratio_gcd.F a0 a1) := ⟨fun k => ratio_gcd.mono a0 a1 k, rfl⟩
noncomputable def ratio_Right.F (a0_0 : Int) (a0_1 : Int) : Option (Bool) := lim (fun k => ratio_Right.f k a0_0 a0_1)
theorem ratio_Right.F_is (a0_0 : Int) (a0_1 : Int) : LimIs (fun k => ratio_Right.f k a0_0 a0_1) (ratio_Right.F a0_0 a0_1) := ⟨fun k => ratio_Right.mono a0_0 a0_1 k, rfl⟩
noncomputable def sample_chance.F (a0_0 : Int) (a0_1 : Int) : Option (Int) := lim (fun k => sample_chance.f k a0_0 a0_1)
theorem sample_chance.F_is (a0_0 : Int) (a0_1 : Int) : LimIs (fun k => sample_chance.f k a0_0 a0_1) (sample_chance.F a0_0 a0_1) := ⟨fun k => sample_chance.mono a0_0 a0_1 k, rfl⟩
noncomputable def slices_IndexFunc_int_int.F (l0 : List Int) (a1 : Int) : Option (Int) := lim (fun k => slices_IndexFunc_int_int.f k l0 a1)
theorem slices_IndexFunc_int_int.F_is (l0 : List Int) (a1 : Int) : LimIs (fun k => slices_IndexFunc_int_int.f k l0 a1) (slices_IndexFunc_int_int.F l0 a1) := ⟨fun k => slices_IndexFunc_int_int.mono l0 a1 k, rfl⟩
noncomputable def slices_ContainsFunc_int_int.F (l0 : List Int) (a1 : Int) : Option (Bool) := lim (fun k => slices_ContainsFunc_int_int.f k l0 a1)
theorem slices_ContainsFunc_int_int.F_is (l0 : List Int) (a1 : Int) : LimIs (fun k => slices_ContainsFunc_int_int.f k l0 a1) (slices_ContainsFunc_int_int.F l0 a1) := ⟨fun k => slices_ContainsFunc_int_int.mono l0 a1 k, rfl⟩
noncomputable def dist_small.F (l0 : List Int) : Option (Bool) := lim (fun k => dist_small.f k l0)
theorem dist_small.F_is (l0 : List Int) : LimIs (fun k => dist_small.f k l0) (dist_small.F l0) := ⟨fun k => dist_small.mono l0 k, rfl⟩
theorem ratio_gcd.L0_eq (x0 : Int) (x1 : Int) : ratio_gcd.L0 x0 x1 = if x1 = 0 then (some x0) else (ratio_gcd.L0 x1 (Int.tmod x0 x1)) := by
 refine LimIs.step' (ratio_gcd.L0_is x0 x1).1 (b := fun k => if x1 = 0 then (some x0) else (ratio_gcd.l0 k x1 (Int.tmod x0 x1))) (fun k => by first | rfl | rw [ratio_gcd.l0]) ?_
 repeat' first
  | (with_reducible exact ratio_gcd.L0_is _ _)
  | (with_reducible exact LimIs.const _)
  | (with_reducible refine LimIs.ite ?_ ?_)
  | (with_reducible refine LimIs.bind ?_ (fun _ => ?_))
  | exact ratio_gcd.L0_is _ _
  | exact LimIs.const _
  | refine LimIs.ite ?_ ?_
  | refine LimIs.bind ?_ (fun _ => ?_)
theorem slices_IndexFunc_int_int.L0_eq (x0 : List Int) (x7 : Int) (x8 : Int) : slices_IndexFunc_int_int.L0 x0 x7 x8 = if x8 < x7 then (if 0 ≤ x8 then (if x8 < (x0.length : Int) then ((dist_small_1.f (rd x0 x8)).bind fun t106 => (if t106 = true then (some x8) else (slices_IndexFunc_int_int.L0 x0 x7 (wrap64 (x8 + 1))))) else (none)) else (none)) else (some (-1)) := by
 refine LimIs.step' (slices_IndexFunc_int_int.L0_is x0 x7 x8).1 (b := fun k => if x8 < x7 then (if 0 ≤ x8 then (if x8 < (x0.length : Int) then ((dist_small_1.f (rd x0 x8)).bind fun t106 => (if t106 = true then (some x8) else (slices_IndexFunc_int_int.l0 k x0 x7 (wrap64 (x8 + 1))))) else (none)) else (none)) else (some (-1))) (fun k => by first | rfl | rw [slices_IndexFunc_int_int.l0]) ?_
 repeat' first
  | (with_reducible exact slices_IndexFunc_int_int.L0_is _ _ _)
  | (with_reducible exact LimIs.const _)
  | (with_reducible refine LimIs.ite ?_ ?_)
  | (with_reducible refine LimIs.bind ?_ (fun _ => ?_))
  | exact slices_IndexFunc_int_int.L0_is _ _ _
  | exact LimIs.const _
  | refine LimIs.ite ?_ ?_
  | refine LimIs.bind ?_ (fun _ => ?_)
theorem ratio_gcd.F_eq (a0 : Int) (a1 : Int) : ratio_gcd.F a0 a1 = ratio_gcd.L0 a0 a1 := by
 refine LimIs.out (?_ : LimIs (fun k => ratio_gcd.l0 k a0 a1) _)
 repeat' first
  | (with_reducible exact ratio_gcd.L0_is _ _)
  | (with_reducible exact LimIs.const _)
  | (with_reducible refine LimIs.ite ?_ ?_)
  | (with_reducible refine LimIs.bind ?_ (fun _ => ?_))
  | exact ratio_gcd.L0_is _ _
  | exact LimIs.const _
  | refine LimIs.ite ?_ ?_
  | refine LimIs.bind ?_ (fun _ => ?_)
theorem ratio_Right.F_eq (a0_0 : Int) (a0_1 : Int) : ratio_Right.F a0_0 a0_1 = if a0_0 ≥ 0 then (if a0_1 ≥ 1 then (if a0_0 ≤ 1073741824 then (if a0_1 ≤ 1073741824 then ((ratio_gcd.F a0_0 a0_1).bind fun t102 => (some (t102 == 1))) else (some false)) else (some false)) else (some false)) else (some false) := by
 refine LimIs.out (?_ : LimIs (fun k => if a0_0 ≥ 0 then (if a0_1 ≥ 1 then (if a0_0 ≤ 1073741824 then (if a0_1 ≤ 1073741824 then ((ratio_gcd.f k a0_0 a0_1).bind fun t102 => (some (t102 == 1))) else (some false)) else (some false)) else (some false)) else (some false)) _)
 repeat' first
  | (with_reducible exact ratio_gcd.F_is _ _)
  | (with_reducible exact LimIs.const _)
  | (with_reducible refine LimIs.ite ?_ ?_)
  | (with_reducible refine LimIs.bind ?_ (fun _ => ?_))
  | exact ratio_gcd.F_is _ _
  | exact LimIs.const _
  | refine LimIs.ite ?_ ?_
  | refine LimIs.bind ?_ (fun _ => ?_)
theorem sample_chance.F_eq (a0_0 : Int) (a0_1 : Int) : sample_chance.F a0_0 a0_1 = (ratio_Right.F a0_0 a0_1).bind fun t104 => (if t104 = true then (if a0_0 > a0_1 then (some (3 : Int)) else (some (0 : Int))) else (some (2 : Int))) := by
 refine LimIs.out (?_ : LimIs (fun k => (ratio_Right.f k a0_0 a0_1).bind fun t104 => (if t104 = true then (if a0_0 > a0_1 then (some (3 : Int)) else (some (0 : Int))) else (some (2 : Int)))) _)
 repeat' first
  | (with_reducible exact ratio_Right.F_is _ _)
  | (with_reducible exact LimIs.const _)
  | (with_reducible refine LimIs.ite ?_ ?_)
  | (with_reducible refine LimIs.bind ?_ (fun _ => ?_))
  | exact ratio_Right.F_is _ _
  | exact LimIs.const _
  | refine LimIs.ite ?_ ?_
  | refine LimIs.bind ?_ (fun _ => ?_)
theorem slices_IndexFunc_int_int.F_eq (l0 : List Int) (a1 : Int) : slices_IndexFunc_int_int.F l0 a1 = slices_IndexFunc_int_int.L0 l0 (l0.length : Int) 0 := by
 refine LimIs.out (?_ : LimIs (fun k => slices_IndexFunc_int_int.l0 k l0 (l0.length : Int) 0) _)
 repeat' first
  | (with_reducible exact slices_IndexFunc_int_int.L0_is _ _ _)
  | (with_reducible exact LimIs.const _)
  | (with_reducible refine LimIs.ite ?_ ?_)
  | (with_reducible refine LimIs.bind ?_ (fun _ => ?_))
  | exact slices_IndexFunc_int_int.L0_is _ _ _
  | exact LimIs.const _
  | refine LimIs.ite ?_ ?_
  | refine LimIs.bind ?_ (fun _ => ?_)
theorem slices_ContainsFunc_int_int.F_eq (l0 : List Int) (a1 : Int) : slices_ContainsFunc_int_int.F l0 a1 = (slices_IndexFunc_int_int.F l0 a1).bind fun t107 => (some (decide (t107 ≥ 0))) := by
 refine LimIs.out (?_ : LimIs (fun k => (slices_IndexFunc_int_int.f k l0 a1).bind fun t107 => (some (decide (t107 ≥ 0)))) _)
 repeat' first
  | (with_reducible exact slices_IndexFunc_int_int.F_is _ _)
  | (with_reducible exact LimIs.const _)
  | (with_reducible refine LimIs.ite ?_ ?_)
  | (with_reducible refine LimIs.bind ?_ (fun _ => ?_))
  | exact slices_IndexFunc_int_int.F_is _ _
  | exact LimIs.const _
  | refine LimIs.ite ?_ ?_
  | refine LimIs.bind ?_ (fun _ => ?_)
theorem dist_small.F_eq (l0 : List Int) : dist_small.F l0 = if (l0.length : Int) ≤ 16 then ((slices_ContainsFunc_int_int.F l0 990000079).bind fun t108 => (some (!t108))) else (some false) := by
 refine LimIs.out (?_ : LimIs (fun k => if (l0.length : Int) ≤ 16 then ((slices_ContainsFunc_int_int.f k l0 990000079).bind fun t108 => (some (!t108))) else (some false)) _)
 repeat' first
  | (with_reducible exact slices_ContainsFunc_int_int.F_is _ _)
  | (with_reducible exact LimIs.const _)
  | (with_reducible refine LimIs.ite ?_ ?_)
  | (with_reducible refine LimIs.bind ?_ (fun _ => ?_))
  | exact slices_ContainsFunc_int_int.F_is _ _
  | exact LimIs.const _
  | refine LimIs.ite ?_ ?_
  | refine LimIs.bind ?_ (fun _ => ?_)
end Go.Proofs.Yteajcjalpofalaa.PA
end
section
namespace Go.Proofs.Yteajcjalpofalaa.PA
set_option maxRecDepth 100000
open Go.RowKit Go.Proofs.YteajcjalpofalaaW.PrintWords Go.Proofs.YteajcjalpofalaaW.PrintLast Go.Proofs.YteajcjalpofalaaW.PrintMore
open Go.Proofs.YteajcjalpofalaaW.EvKit
set_option linter.unusedVariables false
noncomputable def dist_tidy.F (l0 : List S56) : Option (List S56 × Int) := lim (fun k => dist_tidy.f k l0)
theorem dist_tidy.F_is (l0 : List S56) : LimIs (fun k => dist_tidy.f k l0) (dist_tidy.F l0) := ⟨fun k => dist_tidy.mono l0 k, rfl⟩
theorem dist_tidy.F_eq (l0 : List S56) : dist_tidy.F l0 = if tGuard l0 = true then some (tDone (tMerge (sortP l0))) else none := by
 refine LimIs.out (?_ : LimIs (fun k => if tGuard l0 = true then some (tDone (tMerge (sortP l0))) else none) _)
 repeat' first
  | (with_reducible exact LimIs.const _)
  | (with_reducible refine LimIs.ite ?_ ?_)
  | (with_reducible refine LimIs.bind ?_ (fun _ => ?_))
  | exact LimIs.const _
  | refine LimIs.ite ?_ ?_
  | refine LimIs.bind ?_ (fun _ => ?_)
end Go.Proofs.Yteajcjalpofalaa.PA
end
section
namespace Go.Proofs.Yteajcjalpofalaa.PA
set_option maxRecDepth 100000
open Go.RowKit Go.Proofs.YteajcjalpofalaaW.PrintWords Go.Proofs.YteajcjalpofalaaW.PrintLast Go.Proofs.YteajcjalpofalaaW.PrintMore
open Go.Proofs.YteajcjalpofalaaW.EvKit
set_option linter.unusedVariables false
noncomputable def dist_Make.L0 (x4 : List (S56)) (x7 : List (S56)) (x8 : Int) (x9 : Int) : Option ((List (S56)) × Int) := lim (fun k => dist_Make.l0 k x4 x7 x8 x9)
theorem dist_Make.L0_is (x4 : List (S56)) (x7 : List (S56)) (x8 : Int) (x9 : Int) : LimIs (fun k => dist_Make.l0 k x4 x7 x8 x9) (dist_Make.L0 x4 x7 x8 x9) := ⟨fun k => (dist_Make.mono_l k) x4 x7 x8 x9, rfl⟩
noncomputable def dist_Make.F (l0 : List (S56)) : Option ((List (S56)) × Int) := lim (fun k => dist_Make.f k l0)
theorem dist_Make.F_is (l0 : List (S56)) : LimIs (fun k => dist_Make.f k l0) (dist_Make.F l0) := ⟨fun k => dist_Make.mono l0 k, rfl⟩
theorem dist_Make.L0_eq (x4 : List (S56)) (x7 : List (S56)) (x8 : Int) (x9 : Int) : dist_Make.L0 x4 x7 x8 x9 = if x9 < x8 then (if 0 ≤ x9 then (if x9 < (x7.length : Int) then ((dist_small.F ((rd_T56 x7 x9).f0)).bind fun t124 => (if t124 = true then (if ((rd_T56 x7 x9).f1) < 0 then (some (([] : List (S56)), 3)) else (if ((rd_T56 x7 x9).f1) > 1073741824 then (some (([] : List (S56)), 3)) else ((slices_Clone_int_int.f ((rd_T56 x7 x9).f0)).bind fun t125 => (if x4.length < 4398046511104 then (dist_Make.L0 (x4 ++ [(⟨t125, (rd_T56 x7 x9).f1⟩ : S56)]) x7 x8 (wrap64 (x9 + 1))) else (none))))) else (some (([] : List (S56)), 3)))) else (none)) else (none)) else ((dist_tidy.F x4).bind fun bt118 => (some (bt118.1, bt118.2))) := by
 refine LimIs.step' (dist_Make.L0_is x4 x7 x8 x9).1 (b := fun k => if x9 < x8 then (if 0 ≤ x9 then (if x9 < (x7.length : Int) then ((dist_small.f k ((rd_T56 x7 x9).f0)).bind fun t124 => (if t124 = true then (if ((rd_T56 x7 x9).f1) < 0 then (some (([] : List (S56)), 3)) else (if ((rd_T56 x7 x9).f1) > 1073741824 then (some (([] : List (S56)), 3)) else ((slices_Clone_int_int.f ((rd_T56 x7 x9).f0)).bind fun t125 => (if x4.length < 4398046511104 then (dist_Make.l0 k (x4 ++ [(⟨t125, (rd_T56 x7 x9).f1⟩ : S56)]) x7 x8 (wrap64 (x9 + 1))) else (none))))) else (some (([] : List (S56)), 3)))) else (none)) else (none)) else ((dist_tidy.f k x4).bind fun bt118 => (some (bt118.1, bt118.2)))) (fun k => by first | rfl | rw [dist_Make.l0]) ?_
 repeat' first
  | (with_reducible exact dist_small.F_is _)
  | (with_reducible exact dist_Make.L0_is _ _ _ _)
  | (with_reducible exact dist_tidy.F_is _)
  | (with_reducible exact LimIs.const _)
  | (with_reducible refine LimIs.ite ?_ ?_)
  | (with_reducible refine LimIs.bind ?_ (fun _ => ?_))
  | exact dist_small.F_is _
  | exact dist_Make.L0_is _ _ _ _
  | exact dist_tidy.F_is _
  | exact LimIs.const _
  | refine LimIs.ite ?_ ?_
  | refine LimIs.bind ?_ (fun _ => ?_)
theorem dist_Make.F_eq (l0 : List (S56)) : dist_Make.F l0 = dist_Make.L0 ([] : List (S56)) l0 (l0.length : Int) 0 := by
 refine LimIs.out (?_ : LimIs (fun k => dist_Make.l0 k ([] : List (S56)) l0 (l0.length : Int) 0) _)
 repeat' first
  | (with_reducible exact dist_Make.L0_is _ _ _ _)
  | (with_reducible exact LimIs.const _)
  | (with_reducible refine LimIs.ite ?_ ?_)
  | (with_reducible refine LimIs.bind ?_ (fun _ => ?_))
  | exact dist_Make.L0_is _ _ _ _
  | exact LimIs.const _
  | refine LimIs.ite ?_ ?_
  | refine LimIs.bind ?_ (fun _ => ?_)
end Go.Proofs.Yteajcjalpofalaa.PA
end
section
namespace Go.Proofs.Yteajcjalpofalaa.PA
set_option maxRecDepth 100000
open Go.RowKit Go.Proofs.YteajcjalpofalaaW.PrintWords Go.Proofs.YteajcjalpofalaaW.PrintLast Go.Proofs.YteajcjalpofalaaW.PrintMore
open Go.Proofs.YteajcjalpofalaaW.EvKit
set_option linter.unusedVariables false
noncomputable def sample_Subsets.J0 (x1 : Int) (x25 : Bool) (x132000 : Int) (x132001 : Int) : Option ((List (S56)) × Int) := lim (fun k => sample_Subsets.j0 k x1 x25 x132000 x132001)
theorem sample_Subsets.J0_is (x1 : Int) (x25 : Bool) (x132000 : Int) (x132001 : Int) : LimIs (fun k => sample_Subsets.j0 k x1 x25 x132000 x132001) (sample_Subsets.J0 x1 x25 x132000 x132001) := ⟨fun k => (sample_Subsets.mono_l k).1 x1 x25 x132000 x132001, rfl⟩
noncomputable def sample_Subsets.L0 (x1 : Int) (x7 : Int) (x26 : Int) (x27 : Int) (x132000 : Int) (x132001 : Int) : Option ((List (S56)) × Int) := lim (fun k => sample_Subsets.l0 k x1 x7 x26 x27 x132000 x132001)
theorem sample_Subsets.L0_is (x1 : Int) (x7 : Int) (x26 : Int) (x27 : Int) (x132000 : Int) (x132001 : Int) : LimIs (fun k => sample_Subsets.l0 k x1 x7 x26 x27 x132000 x132001) (sample_Subsets.L0 x1 x7 x26 x27 x132000 x132001) := ⟨fun k => (sample_Subsets.mono_l k).2.1 x1 x7 x26 x27 x132000 x132001, rfl⟩
noncomputable def sample_Subsets.L1 (x8 : List Int) (x37 : Int) (x38 : Int) (x132000 : Int) (x132001 : Int) : Option ((List (S56)) × Int) := lim (fun k => sample_Subsets.l1 k x8 x37 x38 x132000 x132001)
theorem sample_Subsets.L1_is (x8 : List Int) (x37 : Int) (x38 : Int) (x132000 : Int) (x132001 : Int) : LimIs (fun k => sample_Subsets.l1 k x8 x37 x38 x132000 x132001) (sample_Subsets.L1 x8 x37 x38 x132000 x132001) := ⟨fun k => (sample_Subsets.mono_l k).2.2.1 x8 x37 x38 x132000 x132001, rfl⟩
noncomputable def sample_Subsets.L2 (x8 : List Int) (x9 : List Int) (x37 : Int) (x38 : Int) (x41 : Int) (x42 : Int) (x132000 : Int) (x132001 : Int) : Option ((List (S56)) × Int) := lim (fun k => sample_Subsets.l2 k x8 x9 x37 x38 x41 x42 x132000 x132001)
theorem sample_Subsets.L2_is (x8 : List Int) (x9 : List Int) (x37 : Int) (x38 : Int) (x41 : Int) (x42 : Int) (x132000 : Int) (x132001 : Int) : LimIs (fun k => sample_Subsets.l2 k x8 x9 x37 x38 x41 x42 x132000 x132001) (sample_Subsets.L2 x8 x9 x37 x38 x41 x42 x132000 x132001) := ⟨fun k => (sample_Subsets.mono_l k).2.2.2.1 x8 x9 x37 x38 x41 x42 x132000 x132001, rfl⟩
noncomputable def sample_Subsets.L3 (x12 : List (S56)) (x69 : List Int) (x70 : Int) (x71 : Int) : Option ((List (S56)) × Int) := lim (fun k => sample_Subsets.l3 k x12 x69 x70 x71)
theorem sample_Subsets.L3_is (x12 : List (S56)) (x69 : List Int) (x70 : Int) (x71 : Int) : LimIs (fun k => sample_Subsets.l3 k x12 x69 x70 x71) (sample_Subsets.L3 x12 x69 x70 x71) := ⟨fun k => (sample_Subsets.mono_l k).2.2.2.2 x12 x69 x70 x71, rfl⟩
noncomputable def sample_Subsets.F (a0_0 : Int) (a0_1 : Int) (a1 : Int) : Option ((List (S56)) × Int) := lim (fun k => sample_Subsets.f k a0_0 a0_1 a1)
theorem sample_Subsets.F_is (a0_0 : Int) (a0_1 : Int) (a1 : Int) : LimIs (fun k => sample_Subsets.f k a0_0 a0_1 a1) (sample_Subsets.F a0_0 a0_1 a1) := ⟨fun k => sample_Subsets.mono a0_0 a0_1 a1 k, rfl⟩
theorem sample_Subsets.J0_eq (x1 : Int) (x25 : Bool) (x132000 : Int) (x132001 : Int) : sample_Subsets.J0 x1 x25 x132000 x132001 = if x25 = true then (some (([] : List (S56)), 5)) else (sample_Subsets.L0 x1 1 x1 0 x132000 x132001) := by
 refine LimIs.step' (sample_Subsets.J0_is x1 x25 x132000 x132001).1 (b := fun k => if x25 = true then (some (([] : List (S56)), 5)) else (sample_Subsets.l0 k x1 1 x1 0 x132000 x132001)) (fun k => by first | rfl | rw [sample_Subsets.j0]) ?_
 repeat' first
  | (with_reducible exact sample_Subsets.L0_is _ _ _ _ _ _)
  | (with_reducible exact LimIs.const _)
  | (with_reducible refine LimIs.ite ?_ ?_)
  | (with_reducible refine LimIs.bind ?_ (fun _ => ?_))
  | exact sample_Subsets.L0_is _ _ _ _ _ _
  | exact LimIs.const _
  | refine LimIs.ite ?_ ?_
  | refine LimIs.bind ?_ (fun _ => ?_)
theorem sample_Subsets.L0_eq (x1 : Int) (x7 : Int) (x26 : Int) (x27 : Int) (x132000 : Int) (x132001 : Int) : sample_Subsets.L0 x1 x7 x26 x27 x132000 x132001 = if x27 < x26 then (if (wrap64 (x7 * x132001)) > 1073741824 then (some (([] : List (S56)), 4)) else (sample_Subsets.L0 x1 (wrap64 (x7 * x132001)) x26 (wrap64 (x27 + 1)) x132000 x132001)) else (sample_Subsets.L1 (([1] : List Int)) x1 0 x132000 x132001) := by
 refine LimIs.step' (sample_Subsets.L0_is x1 x7 x26 x27 x132000 x132001).1 (b := fun k => if x27 < x26 then (if (wrap64 (x7 * x132001)) > 1073741824 then (some (([] : List (S56)), 4)) else (sample_Subsets.l0 k x1 (wrap64 (x7 * x132001)) x26 (wrap64 (x27 + 1)) x132000 x132001)) else (sample_Subsets.l1 k (([1] : List Int)) x1 0 x132000 x132001)) (fun k => by first | rfl | rw [sample_Subsets.l0]) ?_
 repeat' first
  | (with_reducible exact sample_Subsets.L0_is _ _ _ _ _ _)
  | (with_reducible exact sample_Subsets.L1_is _ _ _ _ _)
  | (with_reducible exact LimIs.const _)
  | (with_reducible refine LimIs.ite ?_ ?_)
  | (with_reducible refine LimIs.bind ?_ (fun _ => ?_))
  | exact sample_Subsets.L0_is _ _ _ _ _ _
  | exact sample_Subsets.L1_is _ _ _ _ _
  | exact LimIs.const _
  | refine LimIs.ite ?_ ?_
  | refine LimIs.bind ?_ (fun _ => ?_)
theorem sample_Subsets.L1_eq (x8 : List Int) (x37 : Int) (x38 : Int) (x132000 : Int) (x132001 : Int) : sample_Subsets.L1 x8 x37 x38 x132000 x132001 = if x38 < x37 then (sample_Subsets.L2 x8 ([] : List Int) x37 x38 (x8.length : Int) 0 x132000 x132001) else (sample_Subsets.L3 ([] : List (S56)) x8 (x8.length : Int) 0) := by
 refine LimIs.step' (sample_Subsets.L1_is x8 x37 x38 x132000 x132001).1 (b := fun k => if x38 < x37 then (sample_Subsets.l2 k x8 ([] : List Int) x37 x38 (x8.length : Int) 0 x132000 x132001) else (sample_Subsets.l3 k ([] : List (S56)) x8 (x8.length : Int) 0)) (fun k => by first | rfl | rw [sample_Subsets.l1]) ?_
 repeat' first
  | (with_reducible exact sample_Subsets.L2_is _ _ _ _ _ _ _ _)
  | (with_reducible exact sample_Subsets.L3_is _ _ _ _)
  | (with_reducible exact LimIs.const _)
  | (with_reducible refine LimIs.ite ?_ ?_)
  | (with_reducible refine LimIs.bind ?_ (fun _ => ?_))
  | exact sample_Subsets.L2_is _ _ _ _ _ _ _ _
  | exact sample_Subsets.L3_is _ _ _ _
  | exact LimIs.const _
  | refine LimIs.ite ?_ ?_
  | refine LimIs.bind ?_ (fun _ => ?_)
theorem sample_Subsets.L2_eq (x8 : List Int) (x9 : List Int) (x37 : Int) (x38 : Int) (x41 : Int) (x42 : Int) (x132000 : Int) (x132001 : Int) : sample_Subsets.L2 x8 x9 x37 x38 x41 x42 x132000 x132001 = if x42 < x41 then (if 0 ≤ x42 then (if x42 < (x8.length : Int) then (if x9.length < 17592186044416 then (sample_Subsets.L2 (x8.set (x42 : Int).toNat (wrap64 ((rd x8 x42) * (wrap64 (x132001 - x132000))))) (x9 ++ [wrap64 ((rd x8 x42) * x132000)]) x37 x38 x41 (wrap64 (x42 + 1)) x132000 x132001) else (none)) else (none)) else (none)) else (if x8.length + x9.length < 17592186044416 then (sample_Subsets.L1 (x8 ++ x9) x37 (wrap64 (x38 + 1)) x132000 x132001) else (none)) := by
 refine LimIs.step' (sample_Subsets.L2_is x8 x9 x37 x38 x41 x42 x132000 x132001).1 (b := fun k => if x42 < x41 then (if 0 ≤ x42 then (if x42 < (x8.length : Int) then (if x9.length < 17592186044416 then (sample_Subsets.l2 k (x8.set (x42 : Int).toNat (wrap64 ((rd x8 x42) * (wrap64 (x132001 - x132000))))) (x9 ++ [wrap64 ((rd x8 x42) * x132000)]) x37 x38 x41 (wrap64 (x42 + 1)) x132000 x132001) else (none)) else (none)) else (none)) else (if x8.length + x9.length < 17592186044416 then (sample_Subsets.l1 k (x8 ++ x9) x37 (wrap64 (x38 + 1)) x132000 x132001) else (none))) (fun k => by first | rfl | rw [sample_Subsets.l2]) ?_
 repeat' first
  | (with_reducible exact sample_Subsets.L2_is _ _ _ _ _ _ _ _)
  | (with_reducible exact sample_Subsets.L1_is _ _ _ _ _)
  | (with_reducible exact LimIs.const _)
  | (with_reducible refine LimIs.ite ?_ ?_)
  | (with_reducible refine LimIs.bind ?_ (fun _ => ?_))
  | exact sample_Subsets.L2_is _ _ _ _ _ _ _ _
  | exact sample_Subsets.L1_is _ _ _ _ _
  | exact LimIs.const _
  | refine LimIs.ite ?_ ?_
  | refine LimIs.bind ?_ (fun _ => ?_)
theorem sample_Subsets.L3_eq (x12 : List (S56)) (x69 : List Int) (x70 : Int) (x71 : Int) : sample_Subsets.L3 x12 x69 x70 x71 = if x71 < x70 then (if 0 ≤ x71 then (if x71 < (x69.length : Int) then (if x12.length < 4398046511104 then (sample_Subsets.L3 (x12 ++ [(⟨(([x71] : List Int)), rd x69 x71⟩ : S56)]) x69 x70 (wrap64 (x71 + 1))) else (none)) else (none)) else (none)) else ((dist_Make.F x12).bind fun bt151 => (some (bt151.1, bt151.2))) := by
 refine LimIs.step' (sample_Subsets.L3_is x12 x69 x70 x71).1 (b := fun k => if x71 < x70 then (if 0 ≤ x71 then (if x71 < (x69.length : Int) then (if x12.length < 4398046511104 then (sample_Subsets.l3 k (x12 ++ [(⟨(([x71] : List Int)), rd x69 x71⟩ : S56)]) x69 x70 (wrap64 (x71 + 1))) else (none)) else (none)) else (none)) else ((dist_Make.f k x12).bind fun bt151 => (some (bt151.1, bt151.2)))) (fun k => by first | rfl | rw [sample_Subsets.l3]) ?_
 repeat' first
  | (with_reducible exact sample_Subsets.L3_is _ _ _ _)
  | (with_reducible exact dist_Make.F_is _)
  | (with_reducible exact LimIs.const _)
  | (with_reducible refine LimIs.ite ?_ ?_)
  | (with_reducible refine LimIs.bind ?_ (fun _ => ?_))
  | exact sample_Subsets.L3_is _ _ _ _
  | exact dist_Make.F_is _
  | exact LimIs.const _
  | refine LimIs.ite ?_ ?_
  | refine LimIs.bind ?_ (fun _ => ?_)
theorem sample_Subsets.F_eq (a0_0 : Int) (a0_1 : Int) (a1 : Int) : sample_Subsets.F a0_0 a0_1 a1 = (sample_chance.F a0_0 a0_1).bind fun t132 => (if t132 = 0 then (if a1 < 0 then (sample_Subsets.J0 a1 true a0_0 a0_1) else (sample_Subsets.J0 a1 (decide (a1 > 10)) a0_0 a0_1)) else (some (([] : List (S56)), t132))) := by
 refine LimIs.out (?_ : LimIs (fun k => (sample_chance.f k a0_0 a0_1).bind fun t132 => (if t132 = 0 then (if a1 < 0 then (sample_Subsets.j0 k a1 true a0_0 a0_1) else (sample_Subsets.j0 k a1 (decide (a1 > 10)) a0_0 a0_1)) else (some (([] : List (S56)), t132)))) _)
 repeat' first
  | (with_reducible exact sample_chance.F_is _ _)
  | (with_reducible exact sample_Subsets.J0_is _ _ _ _)
  | (with_reducible exact LimIs.const _)
  | (with_reducible refine LimIs.ite ?_ ?_)
  | (with_reducible refine LimIs.bind ?_ (fun _ => ?_))
  | exact sample_chance.F_is _ _
  | exact sample_Subsets.J0_is _ _ _ _
  | exact LimIs.const _
  | refine LimIs.ite ?_ ?_
  | refine LimIs.bind ?_ (fun _ => ?_)
end Go.Proofs.Yteajcjalpofalaa.PA
end
section
namespace Go.Proofs.Yteajcjalpofalaa.PA
set_option maxRecDepth 100000
open Go.RowKit Go.Proofs.YteajcjalpofalaaW.PrintWords Go.Proofs.YteajcjalpofalaaW.PrintLast Go.Proofs.YteajcjalpofalaaW.PrintMore
open Go.Proofs.YteajcjalpofalaaW.EvKit
set_option linter.unusedVariables false
noncomputable def hushref1_Make.J0 (x0 : Int) (x1 : Int) (x12 : Bool) : Option (Int × Int × Int) := lim (fun k => hushref1_Make.j0 k x0 x1 x12)
theorem hushref1_Make.J0_is (x0 : Int) (x1 : Int) (x12 : Bool) : LimIs (fun k => hushref1_Make.j0 k x0 x1 x12) (hushref1_Make.J0 x0 x1 x12) := ⟨fun k => (hushref1_Make.mono_l k) x0 x1 x12, rfl⟩
noncomputable def hushref1_Make.F (a0 : Int) (a1 : Int) : Option (Int × Int × Int) := lim (fun k => hushref1_Make.f k a0 a1)
theorem hushref1_Make.F_is (a0 : Int) (a1 : Int) : LimIs (fun k => hushref1_Make.f k a0 a1) (hushref1_Make.F a0 a1) := ⟨fun k => hushref1_Make.mono a0 a1 k, rfl⟩
noncomputable def hushref1_Minus.F (a0_0 : Int) (a0_1 : Int) (a1_0 : Int) (a1_1 : Int) : Option (Int × Int × Int) := lim (fun k => hushref1_Minus.f k a0_0 a0_1 a1_0 a1_1)
theorem hushref1_Minus.F_is (a0_0 : Int) (a0_1 : Int) (a1_0 : Int) (a1_1 : Int) : LimIs (fun k => hushref1_Minus.f k a0_0 a0_1 a1_0 a1_1) (hushref1_Minus.F a0_0 a0_1 a1_0 a1_1) := ⟨fun k => hushref1_Minus.mono a0_0 a0_1 a1_0 a1_1 k, rfl⟩
noncomputable def hushref1_Times.F (a0_0 : Int) (a0_1 : Int) (a1_0 : Int) (a1_1 : Int) : Option (Int × Int × Int) := lim (fun k => hushref1_Times.f k a0_0 a0_1 a1_0 a1_1)
theorem hushref1_Times.F_is (a0_0 : Int) (a0_1 : Int) (a1_0 : Int) (a1_1 : Int) : LimIs (fun k => hushref1_Times.f k a0_0 a0_1 a1_0 a1_1) (hushref1_Times.F a0_0 a0_1 a1_0 a1_1) := ⟨fun k => hushref1_Times.mono a0_0 a0_1 a1_0 a1_1 k, rfl⟩
noncomputable def hushref1_Plus.F (a0_0 : Int) (a0_1 : Int) (a1_0 : Int) (a1_1 : Int) : Option (Int × Int × Int) := lim (fun k => hushref1_Plus.f k a0_0 a0_1 a1_0 a1_1)
theorem hushref1_Plus.F_is (a0_0 : Int) (a0_1 : Int) (a1_0 : Int) (a1_1 : Int) : LimIs (fun k => hushref1_Plus.f k a0_0 a0_1 a1_0 a1_1) (hushref1_Plus.F a0_0 a0_1 a1_0 a1_1) := ⟨fun k => hushref1_Plus.mono a0_0 a0_1 a1_0 a1_1 k, rfl⟩
theorem hushref1_Make.J0_eq (x0 : Int) (x1 : Int) (x12 : Bool) : hushref1_Make.J0 x0 x1 x12 = if x12 = true then (some (0, 0, 3)) else ((hushref1_Divisor.F x0 x1).bind fun t239 => (if t239 = 0 then (none) else (if (wrap64 (Int.tdiv x0 t239)) > 1073741824 then (some (0, 0, 4)) else (if (wrap64 (Int.tdiv x1 t239)) > 1073741824 then (some (0, 0, 4)) else (some (wrap64 (Int.tdiv x0 t239), wrap64 (Int.tdiv x1 t239), 0)))))) := by
 refine LimIs.step' (hushref1_Make.J0_is x0 x1 x12).1 (b := fun k => if x12 = true then (some (0, 0, 3)) else ((hushref1_Divisor.f k x0 x1).bind fun t239 => (if t239 = 0 then (none) else (if (wrap64 (Int.tdiv x0 t239)) > 1073741824 then (some (0, 0, 4)) else (if (wrap64 (Int.tdiv x1 t239)) > 1073741824 then (some (0, 0, 4)) else (some (wrap64 (Int.tdiv x0 t239), wrap64 (Int.tdiv x1 t239), 0))))))) (fun k => by first | rfl | rw [hushref1_Make.j0]) ?_
 repeat' first
  | (with_reducible exact hushref1_Divisor.F_is _ _)
  | (with_reducible exact LimIs.const _)
  | (with_reducible refine LimIs.ite ?_ ?_)
  | (with_reducible refine LimIs.bind ?_ (fun _ => ?_))
  | exact hushref1_Divisor.F_is _ _
  | exact LimIs.const _
  | refine LimIs.ite ?_ ?_
  | refine LimIs.bind ?_ (fun _ => ?_)
theorem hushref1_Make.F_eq (a0 : Int) (a1 : Int) : hushref1_Make.F a0 a1 = if a0 < 0 then (hushref1_Make.J0 a0 a1 true) else (hushref1_Make.J0 a0 a1 (decide (a1 < 1))) := by
 refine LimIs.out (?_ : LimIs (fun k => if a0 < 0 then (hushref1_Make.j0 k a0 a1 true) else (hushref1_Make.j0 k a0 a1 (decide (a1 < 1)))) _)
 repeat' first
  | (with_reducible exact hushref1_Make.J0_is _ _ _)
  | (with_reducible exact LimIs.const _)
  | (with_reducible refine LimIs.ite ?_ ?_)
  | (with_reducible refine LimIs.bind ?_ (fun _ => ?_))
  | exact hushref1_Make.J0_is _ _ _
  | exact LimIs.const _
  | refine LimIs.ite ?_ ?_
  | refine LimIs.bind ?_ (fun _ => ?_)
theorem hushref1_Minus.F_eq (a0_0 : Int) (a0_1 : Int) (a1_0 : Int) (a1_1 : Int) : hushref1_Minus.F a0_0 a0_1 a1_0 a1_1 = (hushref1_Right.F a0_0 a0_1).bind fun t243 => (if t243 = true then ((hushref1_Right.F a1_0 a1_1).bind fun t244 => (if t244 = true then ((hushref1_Make.F (wrap64 ((wrap64 (a0_0 * a1_1)) - (wrap64 (a1_0 * a0_1)))) (wrap64 (a0_1 * a1_1))).bind fun bt245 => (some (bt245.1, bt245.2.1, bt245.2.2))) else (some (0, 0, 2)))) else (some (0, 0, 2))) := by
 refine LimIs.out (?_ : LimIs (fun k => (hushref1_Right.f k a0_0 a0_1).bind fun t243 => (if t243 = true then ((hushref1_Right.f k a1_0 a1_1).bind fun t244 => (if t244 = true then ((hushref1_Make.f k (wrap64 ((wrap64 (a0_0 * a1_1)) - (wrap64 (a1_0 * a0_1)))) (wrap64 (a0_1 * a1_1))).bind fun bt245 => (some (bt245.1, bt245.2.1, bt245.2.2))) else (some (0, 0, 2)))) else (some (0, 0, 2)))) _)
 repeat' first
  | (with_reducible exact hushref1_Right.F_is _ _)
  | (with_reducible exact hushref1_Make.F_is _ _)
  | (with_reducible exact LimIs.const _)
  | (with_reducible refine LimIs.ite ?_ ?_)
  | (with_reducible refine LimIs.bind ?_ (fun _ => ?_))
  | exact hushref1_Right.F_is _ _
  | exact hushref1_Make.F_is _ _
  | exact LimIs.const _
  | refine LimIs.ite ?_ ?_
  | refine LimIs.bind ?_ (fun _ => ?_)
theorem hushref1_Times.F_eq (a0_0 : Int) (a0_1 : Int) (a1_0 : Int) (a1_1 : Int) : hushref1_Times.F a0_0 a0_1 a1_0 a1_1 = (hushref1_Right.F a0_0 a0_1).bind fun t251 => (if t251 = true then ((hushref1_Right.F a1_0 a1_1).bind fun t252 => (if t252 = true then ((hushref1_Make.F (wrap64 (a0_0 * a1_0)) (wrap64 (a0_1 * a1_1))).bind fun bt253 => (some (bt253.1, bt253.2.1, bt253.2.2))) else (some (0, 0, 2)))) else (some (0, 0, 2))) := by
 refine LimIs.out (?_ : LimIs (fun k => (hushref1_Right.f k a0_0 a0_1).bind fun t251 => (if t251 = true then ((hushref1_Right.f k a1_0 a1_1).bind fun t252 => (if t252 = true then ((hushref1_Make.f k (wrap64 (a0_0 * a1_0)) (wrap64 (a0_1 * a1_1))).bind fun bt253 => (some (bt253.1, bt253.2.1, bt253.2.2))) else (some (0, 0, 2)))) else (some (0, 0, 2)))) _)
 repeat' first
  | (with_reducible exact hushref1_Right.F_is _ _)
  | (with_reducible exact hushref1_Make.F_is _ _)
  | (with_reducible exact LimIs.const _)
  | (with_reducible refine LimIs.ite ?_ ?_)
  | (with_reducible refine LimIs.bind ?_ (fun _ => ?_))
  | exact hushref1_Right.F_is _ _
  | exact hushref1_Make.F_is _ _
  | exact LimIs.const _
  | refine LimIs.ite ?_ ?_
  | refine LimIs.bind ?_ (fun _ => ?_)
theorem hushref1_Plus.F_eq (a0_0 : Int) (a0_1 : Int) (a1_0 : Int) (a1_1 : Int) : hushref1_Plus.F a0_0 a0_1 a1_0 a1_1 = (hushref1_Right.F a0_0 a0_1).bind fun t259 => (if t259 = true then ((hushref1_Right.F a1_0 a1_1).bind fun t260 => (if t260 = true then ((hushref1_Make.F (wrap64 ((wrap64 (a0_0 * a1_1)) + (wrap64 (a1_0 * a0_1)))) (wrap64 (a0_1 * a1_1))).bind fun bt261 => (some (bt261.1, bt261.2.1, bt261.2.2))) else (some (0, 0, 2)))) else (some (0, 0, 2))) := by
 refine LimIs.out (?_ : LimIs (fun k => (hushref1_Right.f k a0_0 a0_1).bind fun t259 => (if t259 = true then ((hushref1_Right.f k a1_0 a1_1).bind fun t260 => (if t260 = true then ((hushref1_Make.f k (wrap64 ((wrap64 (a0_0 * a1_1)) + (wrap64 (a1_0 * a0_1)))) (wrap64 (a0_1 * a1_1))).bind fun bt261 => (some (bt261.1, bt261.2.1, bt261.2.2))) else (some (0, 0, 2)))) else (some (0, 0, 2)))) _)
 repeat' first
  | (with_reducible exact hushref1_Right.F_is _ _)
  | (with_reducible exact hushref1_Make.F_is _ _)
  | (with_reducible exact LimIs.const _)
  | (with_reducible refine LimIs.ite ?_ ?_)
  | (with_reducible refine LimIs.bind ?_ (fun _ => ?_))
  | exact hushref1_Right.F_is _ _
  | exact hushref1_Make.F_is _ _
  | exact LimIs.const _
  | refine LimIs.ite ?_ ?_
  | refine LimIs.bind ?_ (fun _ => ?_)
end Go.Proofs.Yteajcjalpofalaa.PA
end
section
namespace Go.Proofs.Yteajcjalpofalaa.PA
set_option maxRecDepth 100000
open Go.RowKit Go.Proofs.YteajcjalpofalaaW.PrintWords Go.Proofs.YteajcjalpofalaaW.PrintLast Go.Proofs.YteajcjalpofalaaW.PrintMore
open Go.Proofs.YteajcjalpofalaaW.EvKit
set_option linter.unusedVariables false
noncomputable def ratio_Make.J0 (x0 : Int) (x1 : Int) (x13 : Bool) : Option (Int × Int × Int) := lim (fun k => ratio_Make.j0 k x0 x1 x13)
theorem ratio_Make.J0_is (x0 : Int) (x1 : Int) (x13 : Bool) : LimIs (fun k => ratio_Make.j0 k x0 x1 x13) (ratio_Make.J0 x0 x1 x13) := ⟨fun k => (ratio_Make.mono_l k) x0 x1 x13, rfl⟩
noncomputable def ratio_Make.F (a0 : Int) (a1 : Int) : Option (Int × Int × Int) := lim (fun k => ratio_Make.f k a0 a1)
theorem ratio_Make.F_is (a0 : Int) (a1 : Int) : LimIs (fun k => ratio_Make.f k a0 a1) (ratio_Make.F a0 a1) := ⟨fun k => ratio_Make.mono a0 a1 k, rfl⟩
theorem ratio_Make.J0_eq (x0 : Int) (x1 : Int) (x13 : Bool) : ratio_Make.J0 x0 x1 x13 = if x13 = true then (some (0, 0, 3)) else ((ratio_gcd.F x0 x1).bind fun t221 => (if t221 = 0 then (none) else (if (wrap64 (Int.tdiv x0 t221)) > 1073741824 then (some (0, 0, 4)) else (if (wrap64 (Int.tdiv x1 t221)) > 1073741824 then (some (0, 0, 4)) else (some (wrap64 (Int.tdiv x0 t221), wrap64 (Int.tdiv x1 t221), 0)))))) := by
 refine LimIs.step' (ratio_Make.J0_is x0 x1 x13).1 (b := fun k => if x13 = true then (some (0, 0, 3)) else ((ratio_gcd.f k x0 x1).bind fun t221 => (if t221 = 0 then (none) else (if (wrap64 (Int.tdiv x0 t221)) > 1073741824 then (some (0, 0, 4)) else (if (wrap64 (Int.tdiv x1 t221)) > 1073741824 then (some (0, 0, 4)) else (some (wrap64 (Int.tdiv x0 t221), wrap64 (Int.tdiv x1 t221), 0))))))) (fun k => by first | rfl | rw [ratio_Make.j0]) ?_
 repeat' first
  | (with_reducible exact ratio_gcd.F_is _ _)
  | (with_reducible exact LimIs.const _)
  | (with_reducible refine LimIs.ite ?_ ?_)
  | (with_reducible refine LimIs.bind ?_ (fun _ => ?_))
  | exact ratio_gcd.F_is _ _
  | exact LimIs.const _
  | refine LimIs.ite ?_ ?_
  | refine LimIs.bind ?_ (fun _ => ?_)
theorem ratio_Make.F_eq (a0 : Int) (a1 : Int) : ratio_Make.F a0 a1 = if a0 < 0 then (ratio_Make.J0 a0 a1 true) else (ratio_Make.J0 a0 a1 (decide (a1 < 1))) := by
 refine LimIs.out (?_ : LimIs (fun k => if a0 < 0 then (ratio_Make.j0 k a0 a1 true) else (ratio_Make.j0 k a0 a1 (decide (a1 < 1)))) _)
 repeat' first
  | (with_reducible exact ratio_Make.J0_is _ _ _)
  | (with_reducible exact LimIs.const _)
  | (with_reducible refine LimIs.ite ?_ ?_)
  | (with_reducible refine LimIs.bind ?_ (fun _ => ?_))
  | exact ratio_Make.J0_is _ _ _
  | exact LimIs.const _
  | refine LimIs.ite ?_ ?_
  | refine LimIs.bind ?_ (fun _ => ?_)
end Go.Proofs.Yteajcjalpofalaa.PA
end
section
namespace Go.Proofs.Yteajcjalpofalaa.PA
set_option maxRecDepth 100000
open Go.RowKit Go.Proofs.YteajcjalpofalaaW.PrintWords Go.Proofs.YteajcjalpofalaaW.PrintLast Go.Proofs.YteajcjalpofalaaW.PrintMore
open Go.Proofs.YteajcjalpofalaaW.EvKit
set_option linter.unusedVariables false
noncomputable def ratio_Minus.F (a0 : Int) (a1 : Int) (b0 : Int) (b1 : Int) : Option (Int × Int × Int) := lim (fun k => ratio_Minus.f k a0 a1 b0 b1)
theorem ratio_Minus.F_is (a0 : Int) (a1 : Int) (b0 : Int) (b1 : Int) : LimIs (fun k => ratio_Minus.f k a0 a1 b0 b1) (ratio_Minus.F a0 a1 b0 b1) := ⟨fun k => ratio_Minus.mono a0 a1 b0 b1 k, rfl⟩
noncomputable def ratio_Times.F (a0 : Int) (a1 : Int) (b0 : Int) (b1 : Int) : Option (Int × Int × Int) := lim (fun k => ratio_Times.f k a0 a1 b0 b1)
theorem ratio_Times.F_is (a0 : Int) (a1 : Int) (b0 : Int) (b1 : Int) : LimIs (fun k => ratio_Times.f k a0 a1 b0 b1) (ratio_Times.F a0 a1 b0 b1) := ⟨fun k => ratio_Times.mono a0 a1 b0 b1 k, rfl⟩
noncomputable def ratio_Plus.F (a0 : Int) (a1 : Int) (b0 : Int) (b1 : Int) : Option (Int × Int × Int) := lim (fun k => ratio_Plus.f k a0 a1 b0 b1)
theorem ratio_Plus.F_is (a0 : Int) (a1 : Int) (b0 : Int) (b1 : Int) : LimIs (fun k => ratio_Plus.f k a0 a1 b0 b1) (ratio_Plus.F a0 a1 b0 b1) := ⟨fun k => ratio_Plus.mono a0 a1 b0 b1 k, rfl⟩
noncomputable def sample_Lost.F (a0_0 : Int) (a0_1 : Int) (a1_0 : Int) (a1_1 : Int) : Option (Int × Int × Int) := lim (fun k => sample_Lost.f k a0_0 a0_1 a1_0 a1_1)
theorem sample_Lost.F_is (a0_0 : Int) (a0_1 : Int) (a1_0 : Int) (a1_1 : Int) : LimIs (fun k => sample_Lost.f k a0_0 a0_1 a1_0 a1_1) (sample_Lost.F a0_0 a0_1 a1_0 a1_1) := ⟨fun k => sample_Lost.mono a0_0 a0_1 a1_0 a1_1 k, rfl⟩
theorem ratio_Minus.F_eq (a0 : Int) (a1 : Int) (b0 : Int) (b1 : Int) : ratio_Minus.F a0 a1 b0 b1 = (ratio_Right.F a0 a1).bind fun t => (if t = true then ((ratio_Right.F b0 b1).bind fun u => (if u = true then (ratio_Make.F (wrap64 ((wrap64 (a0 * b1)) - (wrap64 (b0 * a1)))) (wrap64 (a1 * b1))) else (some (0, 0, 2)))) else (some (0, 0, 2))) := by
 refine LimIs.out (?_ : LimIs (fun k => (ratio_Right.f k a0 a1).bind fun t => (if t = true then ((ratio_Right.f k b0 b1).bind fun u => (if u = true then (ratio_Make.f k (wrap64 ((wrap64 (a0 * b1)) - (wrap64 (b0 * a1)))) (wrap64 (a1 * b1))) else (some (0, 0, 2)))) else (some (0, 0, 2)))) _)
 repeat' first
  | (with_reducible exact ratio_Right.F_is _ _)
  | (with_reducible exact ratio_Make.F_is _ _)
  | (with_reducible exact LimIs.const _)
  | (with_reducible refine LimIs.ite ?_ ?_)
  | (with_reducible refine LimIs.bind ?_ (fun _ => ?_))
  | exact ratio_Right.F_is _ _
  | exact ratio_Make.F_is _ _
  | exact LimIs.const _
  | refine LimIs.ite ?_ ?_
  | refine LimIs.bind ?_ (fun _ => ?_)
theorem ratio_Times.F_eq (a0 : Int) (a1 : Int) (b0 : Int) (b1 : Int) : ratio_Times.F a0 a1 b0 b1 = (ratio_Right.F a0 a1).bind fun t => (if t = true then ((ratio_Right.F b0 b1).bind fun u => (if u = true then (ratio_Make.F (wrap64 (a0 * b0)) (wrap64 (a1 * b1))) else (some (0, 0, 2)))) else (some (0, 0, 2))) := by
 refine LimIs.out (?_ : LimIs (fun k => (ratio_Right.f k a0 a1).bind fun t => (if t = true then ((ratio_Right.f k b0 b1).bind fun u => (if u = true then (ratio_Make.f k (wrap64 (a0 * b0)) (wrap64 (a1 * b1))) else (some (0, 0, 2)))) else (some (0, 0, 2)))) _)
 repeat' first
  | (with_reducible exact ratio_Right.F_is _ _)
  | (with_reducible exact ratio_Make.F_is _ _)
  | (with_reducible exact LimIs.const _)
  | (with_reducible refine LimIs.ite ?_ ?_)
  | (with_reducible refine LimIs.bind ?_ (fun _ => ?_))
  | exact ratio_Right.F_is _ _
  | exact ratio_Make.F_is _ _
  | exact LimIs.const _
  | refine LimIs.ite ?_ ?_
  | refine LimIs.bind ?_ (fun _ => ?_)
theorem ratio_Plus.F_eq (a0 : Int) (a1 : Int) (b0 : Int) (b1 : Int) : ratio_Plus.F a0 a1 b0 b1 = (ratio_Right.F a0 a1).bind fun t => (if t = true then ((ratio_Right.F b0 b1).bind fun u => (if u = true then (ratio_Make.F (wrap64 ((wrap64 (a0 * b1)) + (wrap64 (b0 * a1)))) (wrap64 (a1 * b1))) else (some (0, 0, 2)))) else (some (0, 0, 2))) := by
 refine LimIs.out (?_ : LimIs (fun k => (ratio_Right.f k a0 a1).bind fun t => (if t = true then ((ratio_Right.f k b0 b1).bind fun u => (if u = true then (ratio_Make.f k (wrap64 ((wrap64 (a0 * b1)) + (wrap64 (b0 * a1)))) (wrap64 (a1 * b1))) else (some (0, 0, 2)))) else (some (0, 0, 2)))) _)
 repeat' first
  | (with_reducible exact ratio_Right.F_is _ _)
  | (with_reducible exact ratio_Make.F_is _ _)
  | (with_reducible exact LimIs.const _)
  | (with_reducible refine LimIs.ite ?_ ?_)
  | (with_reducible refine LimIs.bind ?_ (fun _ => ?_))
  | exact ratio_Right.F_is _ _
  | exact ratio_Make.F_is _ _
  | exact LimIs.const _
  | refine LimIs.ite ?_ ?_
  | refine LimIs.bind ?_ (fun _ => ?_)
theorem sample_Lost.F_eq (a0_0 : Int) (a0_1 : Int) (a1_0 : Int) (a1_1 : Int) : sample_Lost.F a0_0 a0_1 a1_0 a1_1 = (sample_chance.F a0_0 a0_1).bind fun t226 => (if t226 = 0 then ((ratio_Minus.F a1_0 a1_1 1 1).bind fun bt227 => (if bt227.2.2 = 0 then ((ratio_Times.F a0_0 a0_1 bt227.1 bt227.2.1).bind fun bt231 => (if bt231.2.2 = 0 then ((ratio_Plus.F 1 1 bt231.1 bt231.2.1).bind fun bt235 => (some (bt235.1, bt235.2.1, bt235.2.2))) else (some (0, 0, bt231.2.2)))) else (some (0, 0, bt227.2.2)))) else (some (0, 0, t226))) := by
 refine LimIs.out (?_ : LimIs (fun k => (sample_chance.f k a0_0 a0_1).bind fun t226 => (if t226 = 0 then ((ratio_Minus.f k a1_0 a1_1 1 1).bind fun bt227 => (if bt227.2.2 = 0 then ((ratio_Times.f k a0_0 a0_1 bt227.1 bt227.2.1).bind fun bt231 => (if bt231.2.2 = 0 then ((ratio_Plus.f k 1 1 bt231.1 bt231.2.1).bind fun bt235 => (some (bt235.1, bt235.2.1, bt235.2.2))) else (some (0, 0, bt231.2.2)))) else (some (0, 0, bt227.2.2)))) else (some (0, 0, t226)))) _)
 repeat' first
  | (with_reducible exact sample_chance.F_is _ _)
  | (with_reducible exact ratio_Minus.F_is _ _ _ _)
  | (with_reducible exact ratio_Times.F_is _ _ _ _)
  | (with_reducible exact ratio_Plus.F_is _ _ _ _)
  | (with_reducible exact LimIs.const _)
  | (with_reducible refine LimIs.ite ?_ ?_)
  | (with_reducible refine LimIs.bind ?_ (fun _ => ?_))
  | exact sample_chance.F_is _ _
  | exact ratio_Minus.F_is _ _ _ _
  | exact ratio_Times.F_is _ _ _ _
  | exact ratio_Plus.F_is _ _ _ _
  | exact LimIs.const _
  | refine LimIs.ite ?_ ?_
  | refine LimIs.bind ?_ (fun _ => ?_)
end Go.Proofs.Yteajcjalpofalaa.PA
end
section
namespace Go.Proofs.Yteajcjalpofalaa.PA
set_option maxRecDepth 100000
open Go.RowKit Go.Proofs.YteajcjalpofalaaW.PrintWords Go.Proofs.YteajcjalpofalaaW.PrintLast Go.Proofs.YteajcjalpofalaaW.PrintMore
open Go.Proofs.YteajcjalpofalaaW.EvKit
set_option linter.unusedVariables false
noncomputable def hushref2_Same.L0 (x0 : List (S56)) (x1 : List (S56)) (x12 : Int) (x13 : Int) : Option (Bool) := lim (fun k => hushref2_Same.l0 k x0 x1 x12 x13)
theorem hushref2_Same.L0_is (x0 : List (S56)) (x1 : List (S56)) (x12 : Int) (x13 : Int) : LimIs (fun k => hushref2_Same.l0 k x0 x1 x12 x13) (hushref2_Same.L0 x0 x1 x12 x13) := ⟨fun k => (hushref2_Same.mono_l k) x0 x1 x12 x13, rfl⟩
noncomputable def hushref2_Same.F (l0 : List (S56)) (l1 : List (S56)) : Option (Bool) := lim (fun k => hushref2_Same.f k l0 l1)
theorem hushref2_Same.F_is (l0 : List (S56)) (l1 : List (S56)) : LimIs (fun k => hushref2_Same.f k l0 l1) (hushref2_Same.F l0 l1) := ⟨fun k => hushref2_Same.mono l0 l1 k, rfl⟩
theorem hushref2_Same.L0_eq (x0 : List (S56)) (x1 : List (S56)) (x12 : Int) (x13 : Int) : hushref2_Same.L0 x0 x1 x12 x13 = if x13 < x12 then (if 0 ≤ x13 then (if x13 < (x0.length : Int) then (if x13 < (x1.length : Int) then (if ((rd_T56 x0 x13).f1) = ((rd_T56 x1 x13).f1) then ((hushref2_Compare.F ((rd_T56 x0 x13).f0) ((rd_T56 x1 x13).f0)).bind fun t219 => (if t219 = 0 then (hushref2_Same.L0 x0 x1 x12 (wrap64 (x13 + 1))) else (some false))) else (some false)) else (none)) else (none)) else (none)) else (some true) := by
 refine LimIs.step' (hushref2_Same.L0_is x0 x1 x12 x13).1 (b := fun k => if x13 < x12 then (if 0 ≤ x13 then (if x13 < (x0.length : Int) then (if x13 < (x1.length : Int) then (if ((rd_T56 x0 x13).f1) = ((rd_T56 x1 x13).f1) then ((hushref2_Compare.f k ((rd_T56 x0 x13).f0) ((rd_T56 x1 x13).f0)).bind fun t219 => (if t219 = 0 then (hushref2_Same.l0 k x0 x1 x12 (wrap64 (x13 + 1))) else (some false))) else (some false)) else (none)) else (none)) else (none)) else (some true)) (fun k => by first | rfl | rw [hushref2_Same.l0]) ?_
 repeat' first
  | (with_reducible exact hushref2_Compare.F_is _ _)
  | (with_reducible exact hushref2_Same.L0_is _ _ _ _)
  | (with_reducible exact LimIs.const _)
  | (with_reducible refine LimIs.ite ?_ ?_)
  | (with_reducible refine LimIs.bind ?_ (fun _ => ?_))
  | exact hushref2_Compare.F_is _ _
  | exact hushref2_Same.L0_is _ _ _ _
  | exact LimIs.const _
  | refine LimIs.ite ?_ ?_
  | refine LimIs.bind ?_ (fun _ => ?_)
theorem hushref2_Same.F_eq (l0 : List (S56)) (l1 : List (S56)) : hushref2_Same.F l0 l1 = if (l0.length : Int) = (l1.length : Int) then (hushref2_Same.L0 l0 l1 (l0.length : Int) 0) else (some false) := by
 refine LimIs.out (?_ : LimIs (fun k => if (l0.length : Int) = (l1.length : Int) then (hushref2_Same.l0 k l0 l1 (l0.length : Int) 0) else (some false)) _)
 repeat' first
  | (with_reducible exact hushref2_Same.L0_is _ _ _ _)
  | (with_reducible exact LimIs.const _)
  | (with_reducible refine LimIs.ite ?_ ?_)
  | (with_reducible refine LimIs.bind ?_ (fun _ => ?_))
  | exact hushref2_Same.L0_is _ _ _ _
  | exact LimIs.const _
  | refine LimIs.ite ?_ ?_
  | refine LimIs.bind ?_ (fun _ => ?_)
end Go.Proofs.Yteajcjalpofalaa.PA
end
section
namespace Go.Proofs.Yteajcjalpofalaa.DistPure
set_option linter.unusedVariables false
set_option linter.unusedSimpArgs false
open Go.RowKit Go.Proofs.Yteajcjalpofalaa.PA Go.Proofs.YteajcjalpofalaaW.PrintWords Go.Proofs.YteajcjalpofalaaW.PrintLast Go.Proofs.YteajcjalpofalaaW.PrintMore Go.Proofs.YteajcjalpofalaaW.EvKit
theorem rdAt {xs : List Int} {i : Nat} (h : i < xs.length) : rd xs (i : Int) = xs[i] := by
 rw [rd_nat, List.getD_eq_getElem?_getD, List.getElem?_eq_getElem h]; rfl
theorem rd32At {xs : List S56} {i : Nat} (h : i < xs.length) : rd_T56 xs (i : Int) = xs[i] := by
 unfold rd_T56
 rw [Int.toNat_natCast, List.getD_eq_getElem?_getD, List.getElem?_eq_getElem h]; rfl
theorem w1 {i : Nat} (h : i < 4611686018427387904) : wrap64 ((i : Int) + 1) = ((i + 1 : Nat) : Int) := by rw [wrap64_of (by omega) (by omega)]; rfl
theorem rcmp_loop (x y : List Int) (hx : x.length ≤ 1048576) (hy : y.length ≤ 1048576) : ∀ (n i : Nat), i + n = x.length → i ≤ y.length →
  hushref2_Compare.L0 x y (x.length : Int) (i : Int) = some (cmpL (x.drop i) (y.drop i)) := by
 intro n
 induction n with
 | zero =>
  intro i hi h
  rw [hushref2_Compare.L0_eq, if_neg (by omega), List.drop_of_length_le (show x.length ≤ i by omega)]
  rcases Nat.lt_or_ge i y.length with h2 | h2
  ·
   rw [if_pos (by omega), List.drop_eq_getElem_cons h2]
   rfl
  ·
   rw [if_neg (by omega), List.drop_of_length_le h2]
   rfl
 | succ n ih =>
  intro i hi h
  have hxi : i < x.length := by omega
  rw [hushref2_Compare.L0_eq, if_pos (by omega), List.drop_eq_getElem_cons hxi]
  rcases Nat.lt_or_ge i y.length with h2 | h2
  ·
   rw [if_neg (by omega), if_pos (by omega), if_pos (by omega), if_pos (by omega), List.drop_eq_getElem_cons h2, rdAt hxi, rdAt h2, cmpL]
   by_cases c : x[i] = y[i]
   ·
    rw [if_pos c, if_neg (by omega), if_neg (by omega), w1 (by omega)]
    exact ih (i + 1) (by omega) (by omega)
   ·
    rw [if_neg c]
    by_cases c1 : x[i] < y[i]
    ·
     rw [if_pos c1, if_pos c1]
    ·
     rw [if_neg c1, if_neg c1, if_pos (by omega)]
  ·
   rw [if_pos (by omega), List.drop_of_length_le h2]
   rfl
theorem rcmpF (x y : List Int) (hx : x.length ≤ 1048576) (hy : y.length ≤ 1048576) : hushref2_Compare.F x y = some (cmpL x y) := by
 rw [hushref2_Compare.F_eq]
 exact rcmp_loop x y hx hy x.length 0 (by omega) (by omega)
theorem cmpL0 {a b : List Int} : cmpL a b = 0 ↔ a = b := ⟨cmpL_eq a b, fun h => by rw [h, cmpL_self]⟩
def okN (n : Int) : Bool := decide (-1073741824 ≤ n) && decide (n ≤ 1073741824)
def smallB (o : List Int) : Bool := decide (o.length ≤ 16) && o.all okN
theorem small1 (n : Int) : dist_small_1.f n = some (!okN n) := by
 unfold dist_small_1.f okN
 by_cases h : n < -1073741824
 ·
  rw [if_pos h]; congr 1; symm; simp; omega
 ·
  rw [if_neg h]; congr 1; rw [Bool.eq_iff_iff]; simp; omega
theorem index_loop (x : List Int) (hx : x.length ≤ 1048576) : ∀ (n i : Nat), i + n = x.length →
  ∃ r, slices_IndexFunc_int_int.L0 x (x.length : Int) (i : Int) = some r ∧ decide (r ≥ 0) = !((x.drop i).all okN) := by
 intro n
 induction n with
 | zero =>
  intro i hi
  refine ⟨-1, ?_, ?_⟩
  ·
   rw [slices_IndexFunc_int_int.L0_eq, if_neg (by omega)]
  ·
   rw [List.drop_of_length_le (show x.length ≤ i by omega)]; rfl
 | succ n ih =>
  intro i hi
  have hxi : i < x.length := by omega
  rw [slices_IndexFunc_int_int.L0_eq, if_pos (by omega), if_pos (by omega), if_pos (by omega), rdAt hxi, small1, Option.bind_some, List.drop_eq_getElem_cons hxi, List.all_cons]
  cases h : okN x[i] with
  | false => exact ⟨i, if_pos rfl, by simp⟩
  | true =>
   obtain ⟨r, h1, h2⟩ := ih (i + 1) (by omega)
   refine ⟨r, ?_, by rw [h2]; rfl⟩
   rw [if_neg (by decide), w1 (by omega)]
   exact h1
theorem smallF (o : List Int) (h : o.length ≤ 1048576) : dist_small.F o = some (smallB o) := by
 rw [dist_small.F_eq]
 unfold smallB
 by_cases c : o.length ≤ 16
 ·
  obtain ⟨r, h1, h2⟩ := index_loop o h o.length 0 (by omega)
  rw [if_pos (by omega), slices_ContainsFunc_int_int.F_eq, slices_IndexFunc_int_int.F_eq]
  rw [show (0 : Int) = ((0 : Nat) : Int) from rfl, h1]
  rw [Option.bind_some, Option.bind_some]
  have h2 : decide (r ≥ ((0 : Nat) : Int)) = !((o.drop 0).all okN) := h2
  rw [h2, List.drop_zero, decide_eq_true c]
  simp
 ·
  rw [if_neg (by omega), decide_eq_false c]; rfl
theorem rsmall_loop (x : List Int) (hx : x.length ≤ 1048576) : ∀ (n i : Nat), i + n = x.length →
  hushref2_Small.L0 x (x.length : Int) (i : Int) = some ((x.drop i).all okN) := by
 intro n
 induction n with
 | zero =>
  intro i hi
  rw [hushref2_Small.L0_eq, if_neg (by omega), List.drop_of_length_le (show x.length ≤ i by omega)]
  rfl
 | succ n ih =>
  intro i hi
  have hxi : i < x.length := by omega
  rw [hushref2_Small.L0_eq, if_pos (by omega), if_pos (by omega), if_pos (by omega), rdAt hxi, List.drop_eq_getElem_cons hxi, List.all_cons]
  by_cases c1 : x[i] > 1073741824
  ·
   rw [if_pos c1, show okN x[i] = false by unfold okN; simp; omega]; rfl
  ·
   rw [if_neg c1]
   by_cases c2 : x[i] < -1073741824
   ·
    rw [if_pos c2, show okN x[i] = false by unfold okN; simp; omega]; rfl
   ·
    rw [if_neg c2, show okN x[i] = true by unfold okN; simp; omega, Bool.true_and, w1 (by omega)]
    exact ih (i + 1) (by omega)
theorem rsmallF (o : List Int) (h : o.length ≤ 1048576) : hushref2_Small.F o = some (smallB o) := by
 rw [hushref2_Small.F_eq]
 unfold smallB
 by_cases c : o.length ≤ 16
 ·
  rw [if_neg (by omega), decide_eq_true c, Bool.true_and]
  exact rsmall_loop o h o.length 0 (by omega)
 ·
  rw [if_pos (by omega), decide_eq_false c]; rfl
theorem totOf_cons (p : S56) (l : List S56) : totOf (p :: l) = p.f1 + totOf l := rfl
theorem totOf_nil : totOf [] = 0 := rfl
theorem tot_ge : ∀ {l : List S56}, (∀ p ∈ l, 0 ≤ p.f1) → 0 ≤ totOf l
 | [], _ => Int.le_refl _
 | p :: l, h => by
  have := tot_ge (l := l) (fun q hq => h q (by simp [hq]))
  have := h p (by simp)
  rw [totOf_cons]; omega
theorem wOf_le : ∀ {l : List S56}, (∀ p ∈ l, 0 ≤ p.f1) → ∀ o, 0 ≤ wOf l o ∧ wOf l o ≤ totOf l
 | [], _, _ => ⟨Int.le_refl _, Int.le_refl _⟩
 | p :: l, h, o => by
  have := wOf_le (l := l) (fun q hq => h q (by simp [hq])) o
  have := h p (by simp)
  rw [totOf_cons, wOf_cons]
  split <;> omega
theorem tot_bd : ∀ {l : List S56}, (∀ p ∈ l, 0 ≤ p.f1 ∧ p.f1 ≤ 1073741824) → totOf l ≤ 1073741824 * (l.length : Int)
 | [], _ => Int.le_refl _
 | p :: l, h => by
  have := tot_bd (l := l) (fun q hq => h q (by simp [hq]))
  have := h p (by simp)
  rw [totOf_cons, List.length_cons]; omega
theorem mem_at {l : List S56} {i : Nat} (h : i < l.length) : l[i] ∈ l := List.getElem_mem h
theorem drop_in {l : List S56} {i : Nat} {P : S56 → Prop} (h : ∀ p ∈ l, P p) : ∀ p ∈ l.drop i, P p := fun p hp => h p (List.mem_of_mem_drop hp)
theorem rtot_loop (x : List S56) (hx : x.length ≤ 1048576) (h0 : ∀ p ∈ x, 0 ≤ p.f1) : ∀ (n i : Nat) (a : Int), i + n = x.length → 0 ≤ a → a + totOf (x.drop i) ≤ 4611686018427387904 →
  hushref2_Total.L0 a x (x.length : Int) (i : Int) = some (a + totOf (x.drop i)) := by
 intro n
 induction n with
 | zero =>
  intro i a hi _ _
  rw [hushref2_Total.L0_eq, if_neg (by omega), List.drop_of_length_le (show x.length ≤ i by omega), totOf_nil, Int.add_zero]
 | succ n ih =>
  intro i a hi ha hb
  have hxi : i < x.length := by omega
  have hm := h0 _ (mem_at hxi)
  have hr := tot_ge (drop_in (i := i + 1) h0)
  rw [List.drop_eq_getElem_cons hxi, totOf_cons] at hb ⊢
  rw [hushref2_Total.L0_eq, if_pos (by omega), if_pos (by omega), if_pos (by omega), rd32At hxi, w1 (by omega), wrap64_of (by omega) (by omega), ih (i + 1) _ (by omega) (by omega) (by omega)]
  congr 1
  omega
theorem rtotF (l : List S56) (hl : l.length ≤ 1048576) (h0 : ∀ p ∈ l, 0 ≤ p.f1) (ht : totOf l ≤ 4611686018427387904) : hushref2_Total.F l = some (totOf l) := by
 rw [hushref2_Total.F_eq]
 have h := rtot_loop l hl h0 l.length 0 0 (by omega) (by omega) (by rw [List.drop_zero]; omega)
 rw [List.drop_zero, Int.zero_add] at h
 exact h
theorem weight_loop (o : List Int) (ho : o.length ≤ 1048576) (x : List S56) (hx : x.length ≤ 1048576) (h1 : ∀ p ∈ x, p.f0.length ≤ 1048576) (h0 : ∀ p ∈ x, 0 ≤ p.f1) : ∀ (n i : Nat) (a : Int), i + n = x.length → 0 ≤ a → a + totOf (x.drop i) ≤ 4611686018427387904 →
  hushref2_Weight.L0 o a x (x.length : Int) (i : Int) = some (a + wOf (x.drop i) o) := by
 intro n
 induction n with
 | zero =>
  intro i a hi _ _
  rw [hushref2_Weight.L0_eq, if_neg (by omega), List.drop_of_length_le (show x.length ≤ i by omega)]
  congr 1
  exact (Int.add_zero a).symm
 | succ n ih =>
  intro i a hi ha hb
  have hxi : i < x.length := by omega
  have hm := h0 _ (mem_at hxi)
  have hr := tot_ge (drop_in (i := i + 1) h0)
  rw [List.drop_eq_getElem_cons hxi, totOf_cons] at hb
  rw [List.drop_eq_getElem_cons hxi, wOf_cons, hushref2_Weight.L0_eq, if_pos (by omega), if_pos (by omega), if_pos (by omega), rd32At hxi, rcmpF _ _ (h1 _ (mem_at hxi)) ho, Option.bind_some]
  by_cases c : x[i].f0 = o
  ·
   rw [if_pos (cmpL0.2 c), if_pos c, w1 (by omega), wrap64_of (by omega) (by omega), ih (i + 1) _ (by omega) (by omega) (by omega)]
   congr 1
   omega
  ·
   rw [if_neg (fun h => c (cmpL0.1 h)), if_neg c, w1 (by omega), ih (i + 1) _ (by omega) (by omega) (by omega)]
   congr 1
   omega
theorem weightF (l : List S56) (o : List Int) (ho : o.length ≤ 1048576) (hl : l.length ≤ 1048576) (h1 : ∀ p ∈ l, p.f0.length ≤ 1048576) (h0 : ∀ p ∈ l, 0 ≤ p.f1) (ht : totOf l ≤ 4611686018427387904) : hushref2_Weight.F l o = some (wOf l o) := by
 rw [hushref2_Weight.F_eq]
 have h := weight_loop o ho l hl h1 h0 l.length 0 0 (by omega) (by omega) (by rw [List.drop_zero]; omega)
 rw [List.drop_zero, Int.zero_add] at h
 exact h
end Go.Proofs.Yteajcjalpofalaa.DistPure
end
section
namespace Go.Proofs.Yteajcjalpofalaa.DistPure
set_option linter.unusedVariables false
set_option linter.unusedSimpArgs false
open Go.RowKit Go.Proofs.Yteajcjalpofalaa.PA Go.Proofs.YteajcjalpofalaaW.PrintWords Go.Proofs.YteajcjalpofalaaW.PrintLast Go.Proofs.YteajcjalpofalaaW.PrintMore Go.Proofs.YteajcjalpofalaaW.EvKit
theorem gcd_pos {u d : Int} (h : 1 ≤ d) : 0 < Int.gcd u d := by
 rcases Nat.eq_zero_or_pos (Int.gcd u d) with h0 | h0
 ·
  have := (Int.gcd_eq_zero_iff.1 h0).2
  omega
 ·
  exact h0
theorem quot {u : Int} {g : Nat} (hu : 0 ≤ u) (hu2 : u ≤ 9223372036854775807) : wrap64 (Int.tdiv u (g : Int)) = u / (g : Int) := by
 rw [Int.tdiv_eq_ediv_of_nonneg hu]
 have h0 : 0 ≤ u / (g : Int) := Int.ediv_nonneg hu (by omega)
 have h1 : u / (g : Int) ≤ u := Int.ediv_le_self _ hu
 exact wrap64_of (by omega) (by omega)
theorem tm2 (x : Nat) : Int.tmod (x : Int) 2 = ((x % 2 : Nat) : Int) := by rw [Int.tmod_eq_emod_of_nonneg (by omega)]; rfl
theorem td2 (x : Nat) (h : x ≤ 9223372036854775807) : wrap64 (Int.tdiv (x : Int) 2) = ((x / 2 : Nat) : Int) := by
 rw [Int.tdiv_eq_ediv_of_nonneg (by omega), wrap64_of (by omega) (by omega)]; rfl
theorem div_l2 : ∀ (t a : Nat), t ≤ 4611686018427387904 → a * 2 ^ t ≤ 9223372036854775807 → Ev (fun k => hushref1_Divisor.l2 k (a : Int) (t : Int)) ((a * 2 ^ t : Nat) : Int) := by
 intro t
 induction t with
 | zero =>
  intro a _ _
  refine Ev.step (fun k => hushref1_Divisor.l2.eq_2 _ _ k) (Ev.neg (by omega) ?_)
  simpa using Ev.ret _
 | succ t ih =>
  intro a ht h
  have h1 : a ≤ a * 2 ^ t := Nat.le_mul_of_pos_right _ (Nat.two_pow_pos t)
  rw [Nat.pow_succ] at h
  have h2 : a * (2 ^ t * 2) = 2 * a * 2 ^ t := by rw [Nat.mul_comm (2 ^ t) 2, ← Nat.mul_assoc, Nat.mul_comm a 2]
  rw [h2] at h
  have h3 : 2 * a ≤ 2 * a * 2 ^ t := Nat.le_mul_of_pos_right _ (Nat.two_pow_pos t)
  have h4 := ih (2 * a) (by omega) h
  refine Ev.step (fun k => hushref1_Divisor.l2.eq_2 _ _ k) (Ev.pos (by omega) ?_)
  have e1 : wrap64 (2 * (a : Int)) = ((2 * a : Nat) : Int) := by rw [wrap64_of (by omega) (by omega)]; omega
  have e2 : wrap64 (((t + 1 : Nat) : Int) - 1) = ((t : Nat) : Int) := by rw [wrap64_of (by omega) (by omega)]; omega
  simp only [e1, e2]
  rw [Nat.pow_succ, h2]
  exact h4
theorem gcd_half {x y : Nat} (hx : x % 2 = 0) (hy : y % 2 = 1) : Nat.gcd (x / 2) y = Nat.gcd x y := by
 have h : x = 2 * (x / 2) := by omega
 have hc : Nat.Coprime 2 y := by
  unfold Nat.Coprime
  rw [Nat.gcd_rec, hy]
  decide
 rw [h]
 simp only [Nat.mul_div_cancel_left _ (show 0 < 2 by decide)]
 exact (Nat.Coprime.gcd_mul_left_cancel (x / 2) hc).symm
theorem div_l1 : ∀ (n x y t : Nat) {r : Int}, x + y ≤ n → 0 < x → 0 < y → (x % 2 = 1 ∨ y % 2 = 1) → x ≤ 9223372036854775807 → y ≤ 9223372036854775807 →
  Ev (fun k => hushref1_Divisor.l2 k ((Nat.gcd x y : Nat) : Int) (t : Int)) r → Ev (fun k => hushref1_Divisor.l1 k (x : Int) (y : Int) (t : Int)) r := by
 intro n
 induction n with
 | zero => intro x y t r h hx; omega
 | succ n ih =>
  intro x y t r h hx hy ho bx bY hr
  by_cases he : x = y
  ·
   subst he
   rw [Nat.gcd_self] at hr
   exact Ev.step (fun k => hushref1_Divisor.l1.eq_2 _ _ _ k) (Ev.pos rfl hr)
  ·
   refine Ev.step (fun k => hushref1_Divisor.l1.eq_2 _ _ _ k) (Ev.neg (by omega) ?_)
   rw [tm2, tm2, td2 x bx, td2 y bY]
   by_cases h0 : x % 2 = 0
   ·
    refine Ev.pos (by omega) (ih (x / 2) y t (by omega) (by omega) hy (by omega) (by omega) bY ?_)
    rw [gcd_half h0 (by omega)]
    exact hr
   ·
    refine Ev.neg (by omega) ?_
    by_cases h1 : y % 2 = 0
    ·
     refine Ev.pos (by omega) (ih x (y / 2) t (by omega) hx (by omega) (by omega) bx (by omega) ?_)
     rw [Nat.gcd_comm, gcd_half h1 (by omega), Nat.gcd_comm]
     exact hr
    ·
     refine Ev.neg (by omega) ?_
     by_cases h2 : x > y
     ·
      refine Ev.pos (by omega) ?_
      have e : wrap64 ((x : Int) - (y : Int)) = ((x - y : Nat) : Int) := by rw [wrap64_of (by omega) (by omega)]; omega
      rw [e]
      refine ih (x - y) y t (by omega) (by omega) hy (by omega) (by omega) bY ?_
      rw [Nat.gcd_sub_self_left (by omega)]
      exact hr
     ·
      refine Ev.neg (by omega) ?_
      have e : wrap64 ((y : Int) - (x : Int)) = ((y - x : Nat) : Int) := by rw [wrap64_of (by omega) (by omega)]; omega
      rw [e]
      refine ih x (y - x) t (by omega) hx (by omega) (by omega) bx (by omega) ?_
      rw [Nat.gcd_sub_self_right (by omega)]
      exact hr
theorem div_l0 : ∀ (n x y t : Nat) {r : Int}, x ≤ n → 0 < x → 0 < y → x ≤ 9223372036854775807 → y ≤ 9223372036854775807 → t + n ≤ 9223372036854775807 →
  Ev (fun k => hushref1_Divisor.l2 k ((Nat.gcd x y : Nat) : Int) (t : Int)) r → Ev (fun k => hushref1_Divisor.l0 k (x : Int) (y : Int) (t : Int)) r := by
 intro n
 induction n with
 | zero => intro x y t r h hx; omega
 | succ n ih =>
  intro x y t r h hx hy bx bY ht hr
  have hj : (x % 2 = 1 ∨ y % 2 = 1) → Ev (fun k => hushref1_Divisor.j1 k (x : Int) (y : Int) (t : Int)) r := fun ho =>
   Ev.step (fun k => hushref1_Divisor.j1.eq_2 _ _ _ k) (div_l1 (x + y) x y t (Nat.le_refl _) hx hy ho bx bY hr)
  refine Ev.step (fun k => hushref1_Divisor.l0.eq_2 _ _ _ k) ?_
  rw [tm2, tm2, td2 x bx, td2 y bY]
  by_cases h0 : x % 2 = 0
  ·
   by_cases h1 : y % 2 = 0
   ·
    have e : wrap64 ((t : Int) + 1) = ((t + 1 : Nat) : Int) := by rw [wrap64_of (by omega) (by omega)]; omega
    refine Ev.pos (by omega) (Ev.pos (by omega) ?_)
    rw [e]
    refine ih (x / 2) (y / 2) (t + 1) (by omega) (by omega) (by omega) (by omega) (by omega) (by omega) ?_
    have hg : Nat.gcd x y = 2 * Nat.gcd (x / 2) (y / 2) := by
     rw [← Nat.gcd_mul_left]
     congr 1 <;> omega
    have hle : Nat.gcd x y ≤ x := Nat.gcd_le_left y hx
    refine Ev.step (fun k => hushref1_Divisor.l2.eq_2 _ _ k) (Ev.pos (by omega) ?_)
    have e1 : wrap64 (2 * ((Nat.gcd (x / 2) (y / 2) : Nat) : Int)) = ((Nat.gcd x y : Nat) : Int) := by rw [wrap64_of (by omega) (by omega)]; omega
    have e2 : wrap64 (((t + 1 : Nat) : Int) - 1) = ((t : Nat) : Int) := by rw [wrap64_of (by omega) (by omega)]; omega
    simp only [e1, e2]
    exact hr
   ·
    exact Ev.pos (by omega) (Ev.neg (by omega) (hj (by omega)))
  ·
   exact Ev.neg (by omega) (hj (by omega))
theorem div_ev {u d : Int} (hu : 0 ≤ u) (hd : 1 ≤ d) (bu : u ≤ 9223372036854775807) (bd : d ≤ 9223372036854775807) : Ev (fun k => hushref1_Divisor.f k u d) ((Int.gcd u d : Nat) : Int) := by
 obtain ⟨x, rfl⟩ := Int.eq_ofNat_of_zero_le hu
 obtain ⟨y, rfl⟩ := Int.eq_ofNat_of_zero_le (show 0 ≤ d by omega)
 by_cases h0 : x = 0
 ·
  subst h0
  refine Ev.pos rfl (Ev.eq (Ev.ret _) ?_)
  simp
 ·
  refine Ev.neg (by omega) ?_
  show Ev (fun k => hushref1_Divisor.l0 k (x : Int) (y : Int) 0) ((Nat.gcd x y : Nat) : Int)
  refine div_l0 x x y 0 (Nat.le_refl _) (by omega) (by omega) (by omega) (by omega) (by omega) ?_
  refine Ev.eq (div_l2 0 (Nat.gcd x y) (by omega) ?_) (by simp)
  have := Nat.gcd_le_left y (show 0 < x by omega)
  simp
  omega
theorem divF {u d : Int} (hu : 0 ≤ u) (hd : 1 ≤ d) (bu : u ≤ 9223372036854775807) (bd : d ≤ 9223372036854775807) : hushref1_Divisor.F u d = some ((Int.gcd u d : Nat) : Int) := (hushref1_Divisor.F_is u d).of_ev (div_ev hu hd bu bd)
def makeS (u d : Int) : Int × Int × Int :=
 if u < 0 ∨ d < 1 then (0, 0, 3) else
 if u / (Int.gcd u d : Nat) > 1073741824 ∨ d / (Int.gcd u d : Nat) > 1073741824 then (0, 0, 4) else (u / (Int.gcd u d : Nat), d / (Int.gcd u d : Nat), 0)
theorem make_j {f : Nat → Option Int} {u d : Int} (hf : 0 ≤ u → 1 ≤ d → Ev f ((Int.gcd u d : Nat) : Int)) (hu : -9223372036854775808 ≤ u ∧ u ≤ 9223372036854775807) (hd : -9223372036854775808 ≤ d ∧ d ≤ 9223372036854775807) (b : Bool) (hb : b = decide (u < 0 ∨ d < 1)) :
  Ev (fun k => if b = true then (some (0, 0, 3)) else ((f k).bind fun t => (if t = 0 then (none) else (if (wrap64 (Int.tdiv u t)) > 1073741824 then (some (0, 0, 4)) else (if (wrap64 (Int.tdiv d t)) > 1073741824 then (some (0, 0, 4)) else (some (wrap64 (Int.tdiv u t), wrap64 (Int.tdiv d t), 0))))))) (makeS u d) := by
 subst hb
 unfold makeS
 by_cases hn : u < 0 ∨ d < 1
 ·
  rw [if_pos hn]
  exact Ev.pos (by simpa using hn) (Ev.ret _)
 ·
  rw [if_neg hn]
  have h1 : 0 ≤ u ∧ 1 ≤ d := by omega
  have hg := gcd_pos (u := u) h1.2
  refine Ev.neg (by simpa using hn) (Ev.bind (hf h1.1 h1.2) (Ev.neg (by omega) ?_))
  rw [quot h1.1 hu.2, quot (by omega) hd.2]
  by_cases c1 : u / (Int.gcd u d : Nat) > 1073741824
  ·
   exact Ev.eq (r := (0, 0, 4)) (Ev.pos c1 (Ev.ret _)) (if_pos (Or.inl c1)).symm
  ·
   by_cases c2 : d / (Int.gcd u d : Nat) > 1073741824
   ·
    exact Ev.eq (r := (0, 0, 4)) (Ev.neg c1 (Ev.pos c2 (Ev.ret _))) (if_pos (Or.inr c2)).symm
   ·
    exact Ev.eq (Ev.neg c1 (Ev.neg c2 (Ev.ret _))) (if_neg (by omega)).symm
end Go.Proofs.Yteajcjalpofalaa.DistPure
end
section
namespace Go.Proofs.Yteajcjalpofalaa.DistPure
set_option linter.unusedVariables false
set_option linter.unusedSimpArgs false
open Go.RowKit Go.Proofs.Yteajcjalpofalaa.PA Go.Proofs.YteajcjalpofalaaW.PrintWords Go.Proofs.YteajcjalpofalaaW.PrintLast Go.Proofs.YteajcjalpofalaaW.PrintMore Go.Proofs.YteajcjalpofalaaW.EvKit
def Outs (l : List S56) (x : List Int) : Prop := ∃ p ∈ l, p.f0 = x ∧ 0 < p.f1
theorem wOf_ge : ∀ {l : List S56}, (∀ p ∈ l, 0 ≤ p.f1) → ∀ {p : S56}, p ∈ l → p.f1 ≤ wOf l p.f0
 | [], _, p, h => by cases h
 | q :: l, h0, p, h => by
  have h1 := h0 q (by simp)
  have h2 : ∀ p ∈ l, 0 ≤ p.f1 := fun x hx => h0 x (by simp [hx])
  rw [wOf_cons]
  rcases List.mem_cons.1 h with e | e
  ·
   subst e
   rw [if_pos rfl]
   have := (wOf_le h2 p.f0).1
   omega
  ·
   have := wOf_ge h2 e
   split <;> omega
theorem wOf_some : ∀ {l : List S56}, (∀ p ∈ l, 0 ≤ p.f1) → ∀ {o : List Int}, 0 < wOf l o → Outs l o
 | [], _, _, h => absurd h (Int.lt_irrefl 0)
 | q :: l, h0, o, h => by
  have h1 := h0 q (by simp)
  rw [wOf_cons] at h
  by_cases c : q.f0 = o ∧ 0 < q.f1
  ·
   exact ⟨q, by simp, c⟩
  ·
   have h2 : 0 < wOf l o := by
    by_cases e : q.f0 = o
    ·
     rw [if_pos e] at h
     have : ¬ 0 < q.f1 := fun x => c ⟨e, x⟩
     omega
    ·
     rw [if_neg e] at h; omega
   obtain ⟨p, hp, e⟩ := wOf_some (fun x hx => h0 x (by simp [hx])) h2
   exact ⟨p, by simp [hp], e⟩
theorem outs_iff {l D : List S56} (h : Canon l D) (h0 : ∀ p ∈ l, 0 ≤ p.f1) (x : List Int) : Outs l x ↔ ∃ q ∈ D, q.f0 = x := by
 have d0 : ∀ p ∈ D, 0 ≤ p.f1 := fun p hp => Int.le_of_lt (h.pos p hp)
 constructor
 ·
  rintro ⟨p, hp, e, hpos⟩
  have := wOf_ge h0 hp
  rw [e, ← h.w] at this
  exact wOf_mem (by omega)
 ·
  rintro ⟨q, hq, e⟩
  have := wOf_ge d0 hq
  have := h.pos q hq
  subst e
  exact wOf_some h0 (by rw [← h.w]; omega)
def Fit (l : List S56) (a : List Int) (b : Bool) (x : List Int) : Prop := Outs l x ∧ (b = true → cmpL x a > 0)
def Least (S : List Int → Prop) (o : List Int) (f : Bool) : Prop := (f = true → S o ∧ ∀ x, S x → cmpL o x ≤ 0) ∧ (f = false → ∀ x, ¬ S x)
theorem Least.new {S S' : List Int → Prop} {o v : List Int} (h : Least S o false) (hS : ∀ x, S' x ↔ S x ∨ x = v) : Least S' v true :=
 ⟨fun _ => ⟨(hS v).2 (.inr rfl), fun x hx => by
  rcases (hS x).1 hx with h1 | h1
  ·
   exact absurd h1 (h.2 rfl x)
  ·
   rw [h1, cmpL_self]; exact Int.le_refl 0⟩, fun c => by cases c⟩
theorem Least.lt {S S' : List Int → Prop} {o v : List Int} (h : Least S o true) (c : cmpL v o < 0) (hS : ∀ x, S' x ↔ S x ∨ x = v) : Least S' v true :=
 ⟨fun _ => ⟨(hS v).2 (.inr rfl), fun x hx => by
  rcases (hS x).1 hx with h1 | h1
  ·
   exact cmpL_le_trans _ _ _ (Int.le_of_lt c) ((h.1 rfl).2 x h1)
  ·
   rw [h1, cmpL_self]; exact Int.le_refl 0⟩, fun c => by cases c⟩
theorem Least.ge {S S' : List Int → Prop} {o v : List Int} (h : Least S o true) (c : ¬ cmpL v o < 0) (hS : ∀ x, S' x ↔ S x ∨ x = v) : Least S' o true :=
 ⟨fun _ => ⟨(hS o).2 (.inl (h.1 rfl).1), fun x hx => by
  rcases (hS x).1 hx with h1 | h1
  ·
   exact (h.1 rfl).2 x h1
  ·
   have := cmpL_swap o v
   rw [h1]; omega⟩, fun c => by cases c⟩
theorem Least.same {S S' : List Int → Prop} {o : List Int} {f : Bool} (h : Least S o f) (hS : ∀ x, S' x ↔ S x) : Least S' o f :=
 ⟨fun c => ⟨(hS o).2 (h.1 c).1, fun x hx => (h.1 c).2 x ((hS x).1 hx)⟩, fun c x hx => h.2 c x ((hS x).1 hx)⟩
theorem outs_app (l : List S56) (p : S56) (x : List Int) : Outs (l ++ [p]) x ↔ Outs l x ∨ (x = p.f0 ∧ 0 < p.f1) := by
 constructor
 ·
  rintro ⟨q, hq, e⟩
  rcases List.mem_append.1 hq with h | h
  ·
   exact .inl ⟨q, h, e⟩
  ·
   rw [List.mem_singleton.1 h] at e
   exact .inr ⟨e.1.symm, e.2⟩
 ·
  rintro (⟨q, hq, e⟩ | ⟨e, h⟩)
  ·
   exact ⟨q, by simp [hq], e⟩
  ·
   exact ⟨p, by simp, e.symm, h⟩
theorem fit_same {l : List S56} {a : List Int} {b : Bool} {p : S56} (c : 0 < p.f1 → b = true → ¬ cmpL p.f0 a > 0) (c2 : 0 < p.f1 → b = true) (x : List Int) : Fit (l ++ [p]) a b x ↔ Fit l a b x := by
 unfold Fit
 rw [outs_app]
 constructor
 ·
  rintro ⟨h | ⟨rfl, h⟩, k⟩
  ·
   exact ⟨h, k⟩
  ·
   exact absurd (k (c2 h)) (c h (c2 h))
 ·
  rintro ⟨h, k⟩
  exact ⟨.inl h, k⟩
theorem fit_new {l : List S56} {a : List Int} {b : Bool} {p : S56} (c : 0 < p.f1) (k : b = true → cmpL p.f0 a > 0) (x : List Int) : Fit (l ++ [p]) a b x ↔ Fit l a b x ∨ x = p.f0 := by
 unfold Fit
 rw [outs_app]
 constructor
 ·
  rintro ⟨h | ⟨rfl, h⟩, k⟩
  ·
   exact .inl ⟨h, k⟩
  ·
   exact .inr rfl
 ·
  rintro (⟨h, k⟩ | rfl)
  ·
   exact ⟨.inl h, k⟩
  ·
   exact ⟨.inr ⟨rfl, c⟩, k⟩
theorem take_one {l : List S56} {i : Nat} (h : i < l.length) : l.take (i + 1) = l.take i ++ [l[i]] := by
 rw [List.take_add_one, List.getElem?_eq_getElem h]; rfl
theorem least_loop (l : List S56) (a : List Int) (b : Bool) (hl : l.length ≤ 1048576) (h1 : ∀ p ∈ l, p.f0.length ≤ 1048576) (ha : a.length ≤ 1048576) : ∀ (n i : Nat) (o : List Int) (f : Bool), i + n = l.length → Least (Fit (l.take i) a b) o f →
  ∃ o' f', hushref2_least.L0 a b o f l (l.length : Int) (i : Int) = some (o', f') ∧ Least (Fit l a b) o' f' := by
 intro n
 induction n with
 | zero =>
  intro i o f hi h
  rw [List.take_of_length_le (show l.length ≤ i by omega)] at h
  exact ⟨o, f, by rw [hushref2_least.L0_eq, if_neg (by omega)], h⟩
 | succ n ih =>
  intro i o f hi h
  have hxi : i < l.length := by omega
  have hp := h1 _ (mem_at hxi)
  have e := take_one hxi
  have next : ∀ o f, Least (Fit (l.take i ++ [l[i]]) a b) o f → ∃ o' f', hushref2_least.L0 a b o f l (l.length : Int) (wrap64 ((i : Int) + 1)) = some (o', f') ∧ Least (Fit l a b) o' f' := fun o f h' => by
   rw [w1 (by omega)]
   exact ih (i + 1) o f (by omega) (by rw [e]; exact h')
  rw [hushref2_least.L0_eq, if_pos (by omega), if_pos (by omega), if_pos (by omega), rd32At hxi]
  by_cases c1 : l[i].f1 > 0
  ·
   rw [if_pos c1]
   have body : (b = true → cmpL l[i].f0 a > 0) → ∃ o' f', (if f = true then ((hushref2_Compare.F l[i].f0 o).bind fun t140 => (if t140 < 0 then (hushref2_least.L0 a b l[i].f0 true l (l.length : Int) (wrap64 ((i : Int) + 1))) else (hushref2_least.L0 a b o f l (l.length : Int) (wrap64 ((i : Int) + 1))))) else (hushref2_least.L0 a b l[i].f0 true l (l.length : Int) (wrap64 ((i : Int) + 1)))) = some (o', f') ∧ Least (Fit l a b) o' f' := by
    intro k
    have hn := fit_new (l := l.take i) c1 k
    cases f with
    | false =>
     rw [if_neg (by decide)]
     exact next _ _ (h.new hn)
    | true =>
     have ho : o.length ≤ 1048576 := by
      obtain ⟨q, hq, e, _⟩ := (h.1 rfl).1.1
      rw [← e]
      exact h1 q (List.mem_of_mem_take hq)
     rw [if_pos rfl, rcmpF _ _ hp ho, Option.bind_some]
     by_cases c2 : cmpL l[i].f0 o < 0
     ·
      rw [if_pos c2]
      exact next _ _ (h.lt c2 hn)
     ·
      rw [if_neg c2]
      exact next _ _ (h.ge c2 hn)
   cases b with
   | false =>
    rw [if_neg (by decide)]
    exact body (fun c => by cases c)
   | true =>
    rw [if_pos rfl, rcmpF _ _ hp ha, Option.bind_some]
    by_cases c2 : cmpL l[i].f0 a > 0
    ·
     rw [if_pos c2]
     exact body (fun _ => c2)
    ·
     rw [if_neg c2]
     exact next _ _ (h.same (fit_same (fun _ _ => c2) (fun _ => rfl)))
  ·
   rw [if_neg c1]
   exact next _ _ (h.same (fit_same (fun h => absurd h c1) (fun h => absurd h c1)))
theorem leastF (l : List S56) (a : List Int) (b : Bool) (hl : l.length ≤ 1048576) (h1 : ∀ p ∈ l, p.f0.length ≤ 1048576) (ha : a.length ≤ 1048576) : ∃ o f, hushref2_least.F l a b = some (o, f) ∧ Least (Fit l a b) o f := by
 rw [hushref2_least.F_eq]
 exact least_loop l a b hl h1 ha l.length 0 [] false (by omega) ⟨fun c => (by cases c), fun _ x hx => (by
  obtain ⟨⟨p, hp, _⟩, _⟩ := hx
  cases hp)⟩
def OutsOf (B : List S56) (x : List Int) : Prop := ∃ q ∈ B, q.f0 = x
theorem least_nil {o : List Int} {f : Bool} (h : Least (OutsOf []) o f) : f = false := by
 cases f with
 | false => rfl
 | true =>
  obtain ⟨q, hq, _⟩ := (h.1 rfl).1
  cases hq
theorem least_cons {q : S56} {B : List S56} {o : List Int} {f : Bool} (hs : Strict (q :: B)) (h : Least (OutsOf (q :: B)) o f) : f = true ∧ o = q.f0 := by
 cases f with
 | false => exact absurd ⟨q, by simp, rfl⟩ (h.2 rfl q.f0)
 | true =>
  refine ⟨rfl, ?_⟩
  obtain ⟨⟨r, hr, e⟩, h2⟩ := h.1 rfl
  have h3 := h2 q.f0 ⟨q, by simp, rfl⟩
  rcases List.mem_cons.1 hr with c | c
  ·
   rw [← e, c]
  ·
   have h4 := (List.pairwise_cons.1 hs).1 r c
   have := cmpL_swap q.f0 r.f0
   rw [e] at h4 this
   omega
theorem fit_first {l D : List S56} (h : Canon l D) (h0 : ∀ p ∈ l, 0 ≤ p.f1) (a x : List Int) : OutsOf D x ↔ Fit l a false x := by
 unfold Fit
 rw [outs_iff h h0]
 exact ⟨fun k => ⟨k, fun c => by cases c⟩, fun k => k.1⟩
theorem fit_next {l A B : List S56} {q : S56} (h : Canon l (A ++ q :: B)) (h0 : ∀ p ∈ l, 0 ≤ p.f1) (x : List Int) : OutsOf B x ↔ Fit l q.f0 true x := by
 unfold Fit
 rw [outs_iff h h0]
 have hs := List.pairwise_append.1 h.st
 constructor
 ·
  rintro ⟨r, hr, rfl⟩
  refine ⟨⟨r, by simp [hr], rfl⟩, fun _ => ?_⟩
  have h1 := (List.pairwise_cons.1 hs.2.1).1 r hr
  have := cmpL_swap q.f0 r.f0
  omega
 ·
  rintro ⟨⟨r, hr, rfl⟩, k⟩
  have k := k rfl
  rcases List.mem_append.1 hr with c | c
  ·
   have := hs.2.2 r c q (by simp)
   omega
  ·
   rcases List.mem_cons.1 c with c | c
   ·
    rw [c, cmpL_self] at k; omega
   ·
    exact ⟨r, c, rfl⟩
theorem l2_loop (g : Nat) (hg : 0 < g) : ∀ (B A : List S56), A.length + B.length ≤ 1048576 → (∀ p ∈ B, 0 ≤ p.f1 ∧ p.f1 ≤ 4611686018427387904) →
  hushref2_Tidy.L2 (A ++ B) (g : Int) ((A.length + B.length : Nat) : Int) (A.length : Int) = some (A ++ B.map (fun p => ⟨p.f0, p.f1 / (g : Int)⟩), 0)
 | [], A, hl, _ => by
  rw [hushref2_Tidy.L2_eq, if_neg (by simp)]
  rfl
 | q :: B, A, hl, h0 => by
  rw [List.length_cons] at hl
  have hxi : A.length < (A ++ q :: B).length := by rw [List.length_append, List.length_cons]; omega
  have hq := h0 q (by simp)
  rw [hushref2_Tidy.L2_eq, if_pos (by rw [List.length_cons]; omega), if_pos (by omega), if_pos (by omega), if_neg (by omega), rd32At hxi, w1 (by omega)]
  have e1 : (A ++ q :: B)[A.length] = q := by simp
  rw [e1, quot hq.1 (by omega), Int.toNat_natCast]
  have e2 : (A ++ q :: B).set A.length ⟨q.f0, q.f1 / (g : Int)⟩ = (A ++ [⟨q.f0, q.f1 / (g : Int)⟩]) ++ B := by simp
  rw [e2]
  have ih := l2_loop g hg B (A ++ [⟨q.f0, q.f1 / (g : Int)⟩]) (by rw [List.length_append, List.length_singleton]; omega) (fun p hp => h0 p (by simp [hp]))
  rw [List.length_append, List.length_singleton] at ih
  rw [show A.length + (q :: B).length = A.length + 1 + B.length by rw [List.length_cons]; omega, ih, List.map_cons, List.append_assoc]
  rfl
theorem g_loop (D : List S56) (hl : D.length ≤ 1048576) (h0 : ∀ p ∈ D, 0 < p.f1 ∧ p.f1 ≤ 4611686018427387904) : ∀ (n i g : Nat), i + n = D.length → 0 < g → g ≤ 4611686018427387904 →
  ∃ g', g' = (D.drop i).foldl (fun g p => Nat.gcd p.f1.toNat g) g ∧ 0 < g' ∧ hushref2_Tidy.L1 D (g : Int) D (D.length : Int) (i : Int) = hushref2_Tidy.L1 D (g' : Int) D (D.length : Int) (D.length : Int) := by
 intro n
 induction n with
 | zero =>
  intro i g hi hg _
  obtain rfl : i = D.length := by omega
  exact ⟨g, by rw [List.drop_length]; rfl, hg, rfl⟩
 | succ n ih =>
  intro i g hi hg hb
  have hxi : i < D.length := by omega
  have hm := h0 _ (mem_at hxi)
  obtain ⟨x, hx⟩ := Int.eq_ofNat_of_zero_le (Int.le_of_lt hm.1)
  have hgp : 0 < Nat.gcd x g := Nat.gcd_pos_of_pos_right _ hg
  have hgl : Nat.gcd x g ≤ g := Nat.gcd_le_right _ hg
  obtain ⟨g', e, p, r⟩ := ih (i + 1) (Nat.gcd x g) (by omega) hgp (by omega)
  refine ⟨g', ?_, p, ?_⟩
  ·
   rw [e, List.drop_eq_getElem_cons hxi, List.foldl_cons, hx, Int.toNat_natCast]
  ·
   rw [hushref2_Tidy.L1_eq, if_pos (by omega), if_pos (by omega), if_pos (by omega), rd32At hxi, divF (by omega) (by omega) (by omega) (by omega), Option.bind_some, hx, w1 (by omega)]
   exact r
theorem one_le {l : List S56} (h0 : ∀ p ∈ l, 0 ≤ p.f1) {p : S56} (h : p ∈ l) : p.f1 ≤ totOf l := by
 have h1 := wOf_ge h0 h
 have h2 := (wOf_le h0 p.f0).2
 omega
noncomputable def tidyEnd (D : List S56) : Option (List S56 × Int) := if (D.length : Int) = 0 then (some (([] : List (S56)), 6)) else (if 0 < (D.length : Int) then (hushref2_Tidy.L1 D ((rd_T56 D 0).f1) D (D.length : Int) 0) else (none))
theorem tidyEnd_is (D : List S56) (hl : D.length ≤ 1048576) (h0 : ∀ p ∈ D, 0 < p.f1) (ht : totOf D ≤ 4611686018427387904) : tidyEnd D = some (tDone D) := by
 have h0' : ∀ p ∈ D, 0 ≤ p.f1 := fun p hp => Int.le_of_lt (h0 p hp)
 have hb : ∀ p ∈ D, 0 < p.f1 ∧ p.f1 ≤ 4611686018427387904 := fun p hp => ⟨h0 p hp, Int.le_trans (one_le h0' hp) ht⟩
 have hT := rtotF D hl h0' ht
 have ht0 := tot_ge h0'
 unfold tidyEnd tDone
 cases D with
 | nil => rw [if_pos (by simp), if_pos rfl]
 | cons q D' =>
  have hq := hb q (by simp)
  obtain ⟨x, hx⟩ := Int.eq_ofNat_of_zero_le (Int.le_of_lt hq.1)
  rw [if_neg (by rw [List.length_cons]; omega), if_pos (by rw [List.length_cons]; omega), if_neg (by simp)]
  have e1 : (rd_T56 (q :: D') 0).f1 = (x : Int) := hx
  rw [e1]
  obtain ⟨g', e, hg, r⟩ := g_loop (q :: D') hl hb (q :: D').length 0 x (by omega) (by omega) (by omega)
  rw [show ((0 : Nat) : Int) = 0 from rfl] at r
  rw [r]
  have eg : g' = gOf (q :: D') := by
   rw [e]
   unfold gOf
   rw [List.drop_zero, List.foldl_cons, List.foldl_cons, hx, Int.toNat_natCast, Nat.gcd_self, Nat.gcd_zero_right]
  rw [← eg, hushref2_Tidy.L1_eq, if_neg (by omega), hT, Option.bind_some, if_neg (by omega), quot ht0 (by omega)]
  have hj : ∀ b : Bool, b = decide (totOf (q :: D') / (g' : Int) > 1073741824 ∨ (q :: D').length > 4096) → hushref2_Tidy.J2 (q :: D') (g' : Int) b = some (if totOf (q :: D') / (g' : Int) > 1073741824 ∨ (q :: D').length > 4096 then ([], 4) else ((q :: D').map (fun p => ⟨p.f0, p.f1 / (g' : Int)⟩), 0)) := by
   intro b hb'
   rw [hushref2_Tidy.J2_eq]
   subst hb'
   by_cases c : totOf (q :: D') / (g' : Int) > 1073741824 ∨ (q :: D').length > 4096
   ·
    rw [if_pos (decide_eq_true c), if_pos c]
   ·
    rw [if_neg (by simpa using c), if_neg c]
    have := l2_loop g' hg (q :: D') [] (by simpa using hl) (fun p hp => ⟨h0' p hp, (hb p hp).2⟩)
    simpa using this
  by_cases c1 : totOf (q :: D') / (g' : Int) > 1073741824
  ·
   rw [if_pos c1]
   exact hj true (by simp [c1])
  ·
   rw [if_neg c1]
   refine hj _ ?_
   rw [decide_eq_decide]
   constructor
   ·
    intro h; exact .inr (by omega)
   ·
    rintro (h | h)
    ·
     exact absurd h c1
    ·
     omega
theorem tidy_loop (l D : List S56) (hl : l.length ≤ 1048576) (h1 : ∀ p ∈ l, p.f0.length ≤ 1048576) (h0 : ∀ p ∈ l, 0 ≤ p.f1) (ht : totOf l ≤ 4611686018427387904) (hd : D.length ≤ 1048576) (h : Canon l D) : ∀ (B A : List S56) (o : List Int) (f : Bool), D = A ++ B → Least (OutsOf B) o f →
  hushref2_Tidy.L0 l A o f = tidyEnd D
 | [], A, o, f, e, hf => by
  rw [least_nil hf, hushref2_Tidy.L0_eq, if_neg (by decide), e, List.append_nil]
  rfl
 | q :: B, A, o, f, e, hf => by
  have hs : Strict (q :: B) := by have := h.st; rw [e] at this; exact (List.pairwise_append.1 this).2.1
  obtain ⟨rfl, rfl⟩ := least_cons hs hf
  have hq : q.f0.length ≤ 1048576 := by
   obtain ⟨p, hp, e', _⟩ := (outs_iff h h0 q.f0).2 ⟨q, by rw [e]; simp, rfl⟩
   rw [← e']; exact h1 p hp
  have hw : wOf l q.f0 = q.f1 := by
   have := h.w q.f0
   rw [e, wOf_app, wOf_cons, if_pos rfl, strict_head hs, wOf_none A q.f0 (fun r hr c => by
    have h3 := h.st
    rw [e] at h3
    have h4 := (List.pairwise_append.1 h3).2.2 r hr q (by simp)
    rw [c, cmpL_self] at h4
    omega)] at this
   omega
  obtain ⟨o', f', e1, e2⟩ := leastF l q.f0 true hl h1 hq
  rw [hushref2_Tidy.L0_eq, if_pos rfl, weightF l _ hq hl h1 h0 ht, Option.bind_some, if_pos (by rw [e, List.length_append] at hd; omega), e1, Option.bind_some, hw]
  exact tidy_loop l D hl h1 h0 ht hd h B (A ++ [q]) o' f' (by rw [e, List.append_assoc]; rfl) (e2.same (fun x => fit_next (A := A) (by rw [← e]; exact h) h0 x))
theorem tStep_len (d : List S56) (p : S56) : (tStep d p).length ≤ d.length + 1 := by
 unfold tStep
 split
 ·
  omega
 ·
  split
  ·
   split
   ·
    rw [List.length_append, List.length_dropLast, List.length_singleton]; omega
   ·
    rw [List.length_append, List.length_singleton]; omega
  ·
   rw [List.length_append, List.length_singleton]; omega
theorem tFold_len : ∀ (l d : List S56), (l.foldl tStep d).length ≤ d.length + l.length
 | [], d => by simp
 | p :: l, d => by
  have := tFold_len l (tStep d p)
  have := tStep_len d p
  rw [List.foldl_cons, List.length_cons]; omega
theorem tMerge_len (l : List S56) : (tMerge (sortP l)).length ≤ l.length := by
 have := tFold_len (sortP l) []
 rw [(sortP_perm l).length_eq, List.length_nil] at this
 unfold tMerge
 omega
theorem totOf_app : ∀ (a b : List S56), totOf (a ++ b) = totOf a + totOf b
 | [], b => by rw [totOf_nil]; exact (Int.zero_add _).symm
 | p :: a, b => by rw [List.cons_append, totOf_cons, totOf_cons, totOf_app a b]; omega
theorem totOf_perm {a b : List S56} (h : a.Perm b) : totOf a = totOf b := isum_perm (h.map _)
theorem tStep_tot (d : List S56) (p : S56) : totOf (tStep d p) = totOf d + p.f1 := by
 unfold tStep
 split
 ·
  omega
 ·
  split
  ·
   rename_i q hq
   obtain ⟨d0, e⟩ : ∃ d0, d = d0 ++ [q] := List.getLast?_eq_some_iff.1 hq
   subst e
   split
   ·
    rw [List.dropLast_concat, totOf_app, totOf_app, totOf_cons, totOf_cons, totOf_nil]
    show _ + (q.f1 + p.f1 + 0) = _
    omega
   ·
    rw [totOf_app _ [p], totOf_cons p, totOf_nil]; omega
  ·
   rw [totOf_app, totOf_cons, totOf_nil]; omega
theorem tFold_tot : ∀ (l d : List S56), totOf (l.foldl tStep d) = totOf d + totOf l
 | [], d => by rw [totOf_nil]; exact (Int.add_zero _).symm
 | p :: l, d => by rw [List.foldl_cons, tFold_tot, tStep_tot, totOf_cons]; omega
theorem tMerge_tot (l : List S56) : totOf (tMerge (sortP l)) = totOf l := by
 unfold tMerge
 rw [tFold_tot, totOf_perm (sortP_perm l), totOf_nil]; omega
theorem rtidyF (l : List S56) (hl : l.length ≤ 1048576) (h1 : ∀ p ∈ l, p.f0.length ≤ 1048576) (h0 : ∀ p ∈ l, 0 ≤ p.f1) (ht : totOf l ≤ 4611686018427387904) : hushref2_Tidy.F l = some (tDone (tMerge (sortP l))) := by
 have hc := tidy_canon h0
 obtain ⟨o, f, e1, e2⟩ := leastF l [] false hl h1 (by simp)
 have hlen := tMerge_len l
 rw [hushref2_Tidy.F_eq, e1, Option.bind_some, tidy_loop l _ hl h1 h0 ht (by omega) hc _ [] o f rfl (e2.same (fit_first hc h0 []))]
 exact tidyEnd_is _ (by omega) hc.pos (by rw [tMerge_tot]; exact ht)
end Go.Proofs.Yteajcjalpofalaa.DistPure
end
section
namespace Go.Proofs.Yteajcjalpofalaa.DistPure
set_option linter.unusedVariables false
set_option linter.unusedSimpArgs false
open Go.RowKit Go.Proofs.Yteajcjalpofalaa.PA Go.Proofs.YteajcjalpofalaaW.PrintWords Go.Proofs.YteajcjalpofalaaW.PrintLast Go.Proofs.YteajcjalpofalaaW.PrintMore Go.Proofs.YteajcjalpofalaaW.EvKit
instance : DecidableEq S56 := fun p q => decidable_of_iff (p.f1 = q.f1 ∧ p.f0 = q.f0) (by cases p; cases q; simp only [S56.mk.injEq]; exact And.comm)
structure Bd (l : List S56) : Prop where
 len : l.length ≤ 1048576
 out : ∀ p ∈ l, p.f0.length ≤ 1048576
def okP (p : S56) : Bool := smallB p.f0 && (decide (0 ≤ p.f1) && decide (p.f1 ≤ 1073741824))
theorem okP_iff {p : S56} : okP p = true ↔ smallB p.f0 = true ∧ 0 ≤ p.f1 ∧ p.f1 ≤ 1073741824 := by simp [okP]
def makeP (l : List S56) : List S56 × Int := if l.all okP = true then tDone (tMerge (sortP l)) else ([], 3)
theorem all_ok {l : List S56} (h : l.all okP = true) : ∀ p ∈ l, 0 ≤ p.f1 ∧ p.f1 ≤ 1073741824 := fun p hp => (okP_iff.1 (List.all_eq_true.1 h p hp)).2
theorem all_tot {l : List S56} (h : l.all okP = true) (hl : l.length ≤ 1048576) : totOf l ≤ 4611686018427387904 := by
 have := tot_bd (all_ok h)
 omega
theorem tidyF (l : List S56) (hl : l.length ≤ 1048576) (h : l.all okP = true) : dist_tidy.F l = some (tDone (tMerge (sortP l))) := by
 rw [dist_tidy.F_eq, if_pos]
 unfold tGuard
 have := all_tot h hl
 simp only [Bool.and_eq_true, decide_eq_true_eq, List.all_eq_true]
 exact ⟨⟨by omega, fun p hp => (all_ok h p hp).1⟩, this⟩
theorem cloneF (o : List Int) (h : o.length ≤ 1048576) : slices_Clone_int_int.f o = some o := by
 unfold slices_Clone_int_int.f
 rw [if_pos (by omega)]
theorem make_loop (l : List S56) (h : Bd l) : ∀ (n i : Nat), i + n = l.length → (l.take i).all okP = true →
  dist_Make.L0 (l.take i) l (l.length : Int) (i : Int) = some (if (l.drop i).all okP = true then tDone (tMerge (sortP l)) else ([], 3)) := by
 have hl := h.len
 intro n
 induction n with
 | zero =>
  intro i hi ha
  rw [List.take_of_length_le (show l.length ≤ i by omega)] at ha ⊢
  rw [dist_Make.L0_eq, if_neg (by omega), tidyF l h.len ha, Option.bind_some, List.drop_of_length_le (show l.length ≤ i by omega)]
  rfl
 | succ n ih =>
  intro i hi ha
  have hxi : i < l.length := by omega
  have ho := h.out _ (mem_at hxi)
  rw [dist_Make.L0_eq, if_pos (by omega), if_pos (by omega), if_pos (by omega), rd32At hxi, smallF _ ho, Option.bind_some, List.drop_eq_getElem_cons hxi, List.all_cons]
  have e : okP l[i] = (smallB l[i].f0 && (decide (0 ≤ l[i].f1) && decide (l[i].f1 ≤ 1073741824))) := rfl
  cases c : smallB l[i].f0 with
  | false =>
   rw [if_neg (by decide), e, c]
   rfl
  | true =>
   rw [if_pos rfl]
   by_cases c1 : l[i].f1 < 0
   ·
    rw [if_pos c1, if_neg]
    rw [e, decide_eq_false (show ¬ 0 ≤ l[i].f1 by omega)]
    simp
   ·
    rw [if_neg c1]
    by_cases c2 : l[i].f1 > 1073741824
    ·
     rw [if_pos c2, if_neg]
     rw [e, decide_eq_false (show ¬ l[i].f1 ≤ 1073741824 by omega)]
     simp
    ·
     have hok : okP l[i] = true := okP_iff.2 ⟨c, by omega, by omega⟩
     rw [if_neg c2, cloneF _ ho, Option.bind_some, if_pos (by rw [List.length_take]; omega), hok, Bool.true_and, w1 (by omega)]
     have e2 : l.take i ++ [(⟨l[i].f0, l[i].f1⟩ : S56)] = l.take (i + 1) := (take_one hxi).symm
     rw [e2]
     exact ih (i + 1) (by omega) (by rw [take_one hxi, List.all_append, ha]; simp [hok])
theorem makeF1 (l : List S56) (h : Bd l) : dist_Make.F l = some (makeP l) := by
 rw [dist_Make.F_eq]
 exact make_loop l h l.length 0 (by omega) (by simp)
theorem rmake_loop (l : List S56) (h : Bd l) : ∀ (n i : Nat), i + n = l.length → (l.take i).all okP = true →
  hushref2_Make.L0 l l (l.length : Int) (i : Int) = some (if (l.drop i).all okP = true then tDone (tMerge (sortP l)) else ([], 3)) := by
 have hl := h.len
 intro n
 induction n with
 | zero =>
  intro i hi ha
  rw [List.take_of_length_le (show l.length ≤ i by omega)] at ha
  rw [hushref2_Make.L0_eq, if_neg (by omega), rtidyF l h.len h.out (fun p hp => (all_ok ha p hp).1) (all_tot ha h.len), Option.bind_some, List.drop_of_length_le (show l.length ≤ i by omega)]
  rfl
 | succ n ih =>
  intro i hi ha
  have hxi : i < l.length := by omega
  have ho := h.out _ (mem_at hxi)
  rw [hushref2_Make.L0_eq, if_pos (by omega), if_pos (by omega), if_pos (by omega), rd32At hxi, rsmallF _ ho, Option.bind_some, List.drop_eq_getElem_cons hxi, List.all_cons]
  have e : okP l[i] = (smallB l[i].f0 && (decide (0 ≤ l[i].f1) && decide (l[i].f1 ≤ 1073741824))) := rfl
  cases c : smallB l[i].f0 with
  | false =>
   rw [if_neg (by decide), e, c]
   rfl
  | true =>
   rw [if_pos rfl]
   by_cases c1 : l[i].f1 < 0
   ·
    rw [if_pos c1, if_neg]
    rw [e, decide_eq_false (show ¬ 0 ≤ l[i].f1 by omega)]
    simp
   ·
    rw [if_neg c1]
    by_cases c2 : l[i].f1 > 1073741824
    ·
     rw [if_pos c2, if_neg]
     rw [e, decide_eq_false (show ¬ l[i].f1 ≤ 1073741824 by omega)]
     simp
    ·
     have hok : okP l[i] = true := okP_iff.2 ⟨c, by omega, by omega⟩
     rw [if_neg c2, hok, Bool.true_and, w1 (by omega)]
     exact ih (i + 1) (by omega) (by rw [take_one hxi, List.all_append, ha]; simp [hok])
theorem rmakeF1 (l : List S56) (h : Bd l) : hushref2_Make.F l = some (makeP l) := by
 rw [hushref2_Make.F_eq]
 exact rmake_loop l h l.length 0 (by omega) (by simp)
theorem tDone_bd {D : List S56} (h : Bd D) : Bd (tDone D).1 := by
 unfold tDone
 split
 ·
  exact ⟨by simp, by simp⟩
 ·
  split
  ·
   exact ⟨by simp, by simp⟩
  ·
   refine ⟨by simpa using h.len, fun p hp => ?_⟩
   obtain ⟨q, hq, rfl⟩ := List.mem_map.1 hp
   exact h.out q hq
theorem makeP_bd {l : List S56} (h : Bd l) : Bd (makeP l).1 := by
 unfold makeP
 split
 ·
  rename_i c
  have h0 : ∀ p ∈ l, 0 ≤ p.f1 := fun p hp => (all_ok c p hp).1
  refine tDone_bd ⟨?_, fun q hq => ?_⟩
  ·
   have := tMerge_len l
   have := h.len
   omega
  ·
   obtain ⟨p, hp, e, _⟩ := (outs_iff (tidy_canon h0) h0 q.f0).2 ⟨q, hq, rfl⟩
   rw [← e]
   exact h.out p hp
 ·
  exact ⟨by simp, by simp⟩
theorem s32_eq {p q : S56} : p = q ↔ p.f1 = q.f1 ∧ p.f0 = q.f0 := by
 cases p; cases q
 simp only [S56.mk.injEq]
 exact And.comm
theorem rsame_loop (a b : List S56) (ha : Bd a) (hb : Bd b) (hl : a.length = b.length) : ∀ (n i : Nat), i + n = a.length →
  hushref2_Same.L0 a b (a.length : Int) (i : Int) = some (decide (a.drop i = b.drop i)) := by
 have hla := ha.len
 intro n
 induction n with
 | zero =>
  intro i hi
  rw [hushref2_Same.L0_eq, if_neg (by omega), List.drop_of_length_le (show a.length ≤ i by omega), List.drop_of_length_le (show b.length ≤ i by omega)]
  rfl
 | succ n ih =>
  intro i hi
  have h1 : i < a.length := by omega
  have h2 : i < b.length := by omega
  rw [hushref2_Same.L0_eq, if_pos (by omega), if_pos (by omega), if_pos (by omega), if_pos (by omega), rd32At h1, rd32At h2, List.drop_eq_getElem_cons h1, List.drop_eq_getElem_cons h2]
  by_cases c1 : a[i].f1 = b[i].f1
  ·
   rw [if_pos c1, rcmpF _ _ (ha.out _ (mem_at h1)) (hb.out _ (mem_at h2)), Option.bind_some]
   by_cases c2 : a[i].f0 = b[i].f0
   ·
    rw [if_pos (cmpL0.2 c2), w1 (by omega), ih (i + 1) (by omega), show a[i] = b[i] from s32_eq.2 ⟨c1, c2⟩]
    congr 1
    rw [decide_eq_decide]
    exact ⟨fun h => by rw [h], fun h => by injection h⟩
   ·
    rw [if_neg (fun h => c2 (cmpL0.1 h))]
    congr 1
    symm
    rw [decide_eq_false_iff_not]
    intro h
    injection h with h _
    exact c2 (by rw [h])
  ·
   rw [if_neg c1]
   congr 1
   symm
   rw [decide_eq_false_iff_not]
   intro h
   injection h with h _
   exact c1 (by rw [h])
theorem rsameF (a b : List S56) (ha : Bd a) (hb : Bd b) : hushref2_Same.F a b = some (decide (a = b)) := by
 rw [hushref2_Same.F_eq]
 by_cases h : a.length = b.length
 ·
  rw [if_pos (by omega)]
  exact rsame_loop a b ha hb h a.length 0 (by omega)
 ·
  rw [if_neg (by omega)]
  congr 1
  symm
  rw [decide_eq_false_iff_not]
  intro e
  exact h (by rw [e])
structure Right (d : List S56) : Prop where
 ok : d.all okP = true
 st : Strict d
 pos : 0 < totOf d
 few : totOf d ≤ 1073741824
 much : d.length ≤ 4096
end Go.Proofs.Yteajcjalpofalaa.DistPure
end
section
namespace Go.Proofs.Yteajcjalpofalaa.RatioSpec
set_option linter.unusedVariables false
open Go.RowKit Go.Proofs.Yteajcjalpofalaa.PA Go.Proofs.YteajcjalpofalaaW.PrintWords Go.Proofs.YteajcjalpofalaaW.PrintLast Go.Proofs.YteajcjalpofalaaW.PrintMore Go.Proofs.YteajcjalpofalaaW.EvKit
theorem gcd_ev : ∀ (n : Nat) (a b : Nat), b ≤ n → Ev (fun k => ratio_gcd.f k (a : Int) (b : Int)) ((Nat.gcd a b : Nat) : Int) := by
 intro n
 induction n with
 | zero =>
  intro a b hb
  obtain rfl : b = 0 := by omega
  refine Ev.step (fun k => ratio_gcd.l0.eq_2 _ _ k) (Ev.pos rfl ?_)
  rw [Nat.gcd_zero_right]
  exact Ev.ret _
 | succ n ih =>
  intro a b hb
  by_cases h0 : b = 0
  ·
   subst h0
   refine Ev.step (fun k => ratio_gcd.l0.eq_2 _ _ k) (Ev.pos rfl ?_)
   rw [Nat.gcd_zero_right]
   exact Ev.ret _
  ·
   refine Ev.step (fun k => ratio_gcd.l0.eq_2 _ _ k) (Ev.neg (by omega) ?_)
   have hlt := Nat.mod_lt a (show b > 0 by omega)
   have h := ih b (a % b) (by omega)
   have e : Int.tmod (a : Int) (b : Int) = ((a % b : Nat) : Int) := by
    rw [Int.tmod_eq_emod_of_nonneg (by omega)]; rfl
   rw [e, Nat.gcd_comm a b, Nat.gcd_rec b a, Nat.gcd_comm]
   exact h
def makeS (u d : Int) : Int × Int × Int :=
 if u < 0 ∨ d < 1 then (0, 0, 3) else
 if u / (Int.gcd u d : Nat) > 1073741824 ∨ d / (Int.gcd u d : Nat) > 1073741824 then (0, 0, 4) else (u / (Int.gcd u d : Nat), d / (Int.gcd u d : Nat), 0)
def rightS (u d : Int) : Bool := decide (0 ≤ u ∧ 1 ≤ d ∧ u ≤ 1073741824 ∧ d ≤ 1073741824 ∧ Int.gcd u d = 1)
theorem gcd_pos {u d : Int} (h : 1 ≤ d) : 0 < Int.gcd u d := by
 rcases Nat.eq_zero_or_pos (Int.gcd u d) with h0 | h0
 ·
  have := (Int.gcd_eq_zero_iff.1 h0).2
  omega
 ·
  exact h0
theorem gcd_evI {u d : Int} (hu : 0 ≤ u) (hd : 0 ≤ d) : Ev (fun k => ratio_gcd.f k u d) ((Int.gcd u d : Nat) : Int) := by
 obtain ⟨a, rfl⟩ := Int.eq_ofNat_of_zero_le hu
 obtain ⟨b, rfl⟩ := Int.eq_ofNat_of_zero_le hd
 exact gcd_ev b a b (Nat.le_refl _)
theorem quot {u : Int} {g : Nat} (hu : 0 ≤ u) (hu2 : u ≤ 9223372036854775807) : wrap64 (Int.tdiv u (g : Int)) = u / (g : Int) := by
 rw [Int.tdiv_eq_ediv_of_nonneg hu]
 have h0 : 0 ≤ u / (g : Int) := Int.ediv_nonneg hu (by omega)
 have h1 : u / (g : Int) ≤ u := Int.ediv_le_self _ hu
 exact wrap64_of (by omega) (by omega)
theorem make_j {f : Nat → Option Int} {u d : Int} (hf : 0 ≤ u → 1 ≤ d → Ev f ((Int.gcd u d : Nat) : Int)) (hu : -9223372036854775808 ≤ u ∧ u ≤ 9223372036854775807) (hd : -9223372036854775808 ≤ d ∧ d ≤ 9223372036854775807) (b : Bool) (hb : b = decide (u < 0 ∨ d < 1)) :
  Ev (fun k => if b = true then (some (0, 0, 3)) else ((f k).bind fun t => (if t = 0 then (none) else (if (wrap64 (Int.tdiv u t)) > 1073741824 then (some (0, 0, 4)) else (if (wrap64 (Int.tdiv d t)) > 1073741824 then (some (0, 0, 4)) else (some (wrap64 (Int.tdiv u t), wrap64 (Int.tdiv d t), 0))))))) (makeS u d) := by
 subst hb
 unfold makeS
 by_cases hn : u < 0 ∨ d < 1
 ·
  rw [if_pos hn]
  exact Ev.pos (by simpa using hn) (Ev.ret _)
 ·
  rw [if_neg hn]
  have h1 : 0 ≤ u ∧ 1 ≤ d := by omega
  have hg := gcd_pos (u := u) h1.2
  refine Ev.neg (by simpa using hn) (Ev.bind (hf h1.1 h1.2) (Ev.neg (by omega) ?_))
  rw [quot h1.1 hu.2, quot (by omega) hd.2]
  by_cases c1 : u / (Int.gcd u d : Nat) > 1073741824
  ·
   exact Ev.eq (r := (0, 0, 4)) (Ev.pos c1 (Ev.ret _)) (if_pos (Or.inl c1)).symm
  ·
   by_cases c2 : d / (Int.gcd u d : Nat) > 1073741824
   ·
    exact Ev.eq (r := (0, 0, 4)) (Ev.neg c1 (Ev.pos c2 (Ev.ret _))) (if_pos (Or.inr c2)).symm
   ·
    exact Ev.eq (Ev.neg c1 (Ev.neg c2 (Ev.ret _))) (if_neg (by omega)).symm
theorem make_ev {u d : Int} (hu : -9223372036854775808 ≤ u ∧ u ≤ 9223372036854775807) (hd : -9223372036854775808 ≤ d ∧ d ≤ 9223372036854775807) : Ev (fun k => ratio_Make.f k u d) (makeS u d) := by
 have hj : ∀ b, b = decide (u < 0 ∨ d < 1) → Ev (fun k => ratio_Make.j0 k u d b) (makeS u d) := fun b hb =>
  Ev.step (fun k => ratio_Make.j0.eq_2 _ _ _ k) (make_j (fun h0 h1 => gcd_evI h0 (by omega)) hu hd b hb)
 by_cases h : u < 0
 ·
  exact Ev.pos h (hj true (by simp [h]))
 ·
  exact Ev.neg h (hj _ (by simp [h]))
theorem right_g {f : Nat → Option Int} {u d : Int} (hf : 0 ≤ u → 1 ≤ d → Ev f ((Int.gcd u d : Nat) : Int)) :
  Ev (fun k => if u ≥ 0 then (if d ≥ 1 then (if u ≤ 1073741824 then (if d ≤ 1073741824 then ((f k).bind fun t => (some (t == 1))) else (some false)) else (some false)) else (some false)) else (some false)) (rightS u d) := by
 unfold rightS
 by_cases h0 : u ≥ 0
 ·
  by_cases h1 : d ≥ 1
  ·
   by_cases h2 : u ≤ 1073741824
   ·
    by_cases h3 : d ≤ 1073741824
    ·
     refine Ev.pos h0 (Ev.pos h1 (Ev.pos h2 (Ev.pos h3 (Ev.bind (hf h0 h1) (Ev.eq (Ev.ret _) ?_)))))
     rw [Bool.eq_iff_iff]
     simp [h2, h3]
     omega
    ·
     exact Ev.pos h0 (Ev.pos h1 (Ev.pos h2 (Ev.neg h3 (Ev.eq (Ev.ret _) (by symm; simp; omega)))))
   ·
    exact Ev.pos h0 (Ev.pos h1 (Ev.neg h2 (Ev.eq (Ev.ret _) (by symm; simp; omega))))
  ·
   exact Ev.pos h0 (Ev.neg h1 (Ev.eq (Ev.ret _) (by symm; simp; omega)))
 ·
  exact Ev.neg h0 (Ev.eq (Ev.ret _) (by symm; simp; omega))
theorem right_ev (u d : Int) : Ev (fun k => ratio_Right.f k u d) (rightS u d) := right_g (fun h0 h1 => gcd_evI h0 (by omega))
theorem rightS_iff {u d : Int} : rightS u d = true ↔ 0 ≤ u ∧ 1 ≤ d ∧ u ≤ 1073741824 ∧ d ≤ 1073741824 ∧ Int.gcd u d = 1 := by simp [rightS]
theorem mul_bd {a b : Int} (ha : 0 ≤ a) (ha' : a ≤ 1073741824) (hb : 0 ≤ b) (hb' : b ≤ 1073741824) : 0 ≤ a * b ∧ a * b ≤ 1152921504606846976 :=
 ⟨Int.mul_nonneg ha hb, Int.le_trans (Int.mul_le_mul ha' hb' hb (by omega)) (by decide)⟩
def bothS (a0 a1 b0 b1 : Int) (r : Int × Int × Int) : Int × Int × Int := if rightS a0 a1 = true ∧ rightS b0 b1 = true then r else (0, 0, 2)
def timesS (a0 a1 b0 b1 : Int) := bothS a0 a1 b0 b1 (makeS (a0 * b0) (a1 * b1))
def plusS (a0 a1 b0 b1 : Int) := bothS a0 a1 b0 b1 (makeS (a0 * b1 + b0 * a1) (a1 * b1))
def minusS (a0 a1 b0 b1 : Int) := bothS a0 a1 b0 b1 (makeS (a0 * b1 - b0 * a1) (a1 * b1))
theorem both_ev {R : Nat → Int → Int → Option Bool} {m : Nat → Option (Int × Int × Int)} {a0 a1 b0 b1 : Int} {r : Int × Int × Int} (hR : ∀ u d, Ev (fun k => R k u d) (rightS u d))
  (hm : rightS a0 a1 = true → rightS b0 b1 = true → Ev m r) :
  Ev (fun k => (R k a0 a1).bind fun t => (if t = true then ((R k b0 b1).bind fun u => (if u = true then (m k) else (some (0, 0, 2)))) else (some (0, 0, 2)))) (bothS a0 a1 b0 b1 r) := by
 unfold bothS
 refine Ev.bind (hR a0 a1) ?_
 cases h : rightS a0 a1 with
 | false => exact Ev.neg (by simp) (Ev.eq (Ev.ret _) (by simp))
 | true =>
  refine Ev.pos rfl (Ev.bind (hR b0 b1) ?_)
  cases h' : rightS b0 b1 with
  | false => exact Ev.neg (by simp) (Ev.eq (Ev.ret _) (by simp))
  | true => exact Ev.pos rfl (Ev.eq (hm h h') (by simp))
end Go.Proofs.Yteajcjalpofalaa.RatioSpec
end
section
namespace Go.Proofs.Yteajcjalpofalaa.RatioSpec
set_option linter.unusedVariables false
open Go.RowKit Go.Proofs.Yteajcjalpofalaa.PA Go.Proofs.YteajcjalpofalaaW.PrintWords Go.Proofs.YteajcjalpofalaaW.PrintLast Go.Proofs.YteajcjalpofalaaW.PrintMore Go.Proofs.YteajcjalpofalaaW.EvKit
theorem tm2 (x : Nat) : Int.tmod (x : Int) 2 = ((x % 2 : Nat) : Int) := by rw [Int.tmod_eq_emod_of_nonneg (by omega)]; rfl
theorem td2 (x : Nat) (h : x ≤ 9223372036854775807) : wrap64 (Int.tdiv (x : Int) 2) = ((x / 2 : Nat) : Int) := by
 rw [Int.tdiv_eq_ediv_of_nonneg (by omega), wrap64_of (by omega) (by omega)]; rfl
theorem div_l2 : ∀ (t a : Nat), t ≤ 4611686018427387904 → a * 2 ^ t ≤ 9223372036854775807 → Ev (fun k => hushref1_Divisor.l2 k (a : Int) (t : Int)) ((a * 2 ^ t : Nat) : Int) := by
 intro t
 induction t with
 | zero =>
  intro a _ _
  refine Ev.step (fun k => hushref1_Divisor.l2.eq_2 _ _ k) (Ev.neg (by omega) ?_)
  simpa using Ev.ret _
 | succ t ih =>
  intro a ht h
  have h1 : a ≤ a * 2 ^ t := Nat.le_mul_of_pos_right _ (Nat.two_pow_pos t)
  rw [Nat.pow_succ] at h
  have h2 : a * (2 ^ t * 2) = 2 * a * 2 ^ t := by rw [Nat.mul_comm (2 ^ t) 2, ← Nat.mul_assoc, Nat.mul_comm a 2]
  rw [h2] at h
  have h3 : 2 * a ≤ 2 * a * 2 ^ t := Nat.le_mul_of_pos_right _ (Nat.two_pow_pos t)
  have h4 := ih (2 * a) (by omega) h
  refine Ev.step (fun k => hushref1_Divisor.l2.eq_2 _ _ k) (Ev.pos (by omega) ?_)
  have e1 : wrap64 (2 * (a : Int)) = ((2 * a : Nat) : Int) := by rw [wrap64_of (by omega) (by omega)]; omega
  have e2 : wrap64 (((t + 1 : Nat) : Int) - 1) = ((t : Nat) : Int) := by rw [wrap64_of (by omega) (by omega)]; omega
  simp only [e1, e2]
  rw [Nat.pow_succ, h2]
  exact h4
theorem gcd_half {x y : Nat} (hx : x % 2 = 0) (hy : y % 2 = 1) : Nat.gcd (x / 2) y = Nat.gcd x y := by
 have h : x = 2 * (x / 2) := by omega
 have hc : Nat.Coprime 2 y := by
  unfold Nat.Coprime
  rw [Nat.gcd_rec, hy]
  decide
 rw [h]
 simp only [Nat.mul_div_cancel_left _ (show 0 < 2 by decide)]
 exact (Nat.Coprime.gcd_mul_left_cancel (x / 2) hc).symm
theorem div_l1 : ∀ (n x y t : Nat) {r : Int}, x + y ≤ n → 0 < x → 0 < y → (x % 2 = 1 ∨ y % 2 = 1) → x ≤ 9223372036854775807 → y ≤ 9223372036854775807 →
  Ev (fun k => hushref1_Divisor.l2 k ((Nat.gcd x y : Nat) : Int) (t : Int)) r → Ev (fun k => hushref1_Divisor.l1 k (x : Int) (y : Int) (t : Int)) r := by
 intro n
 induction n with
 | zero => intro x y t r h hx; omega
 | succ n ih =>
  intro x y t r h hx hy ho bx bY hr
  by_cases he : x = y
  ·
   subst he
   rw [Nat.gcd_self] at hr
   exact Ev.step (fun k => hushref1_Divisor.l1.eq_2 _ _ _ k) (Ev.pos rfl hr)
  ·
   refine Ev.step (fun k => hushref1_Divisor.l1.eq_2 _ _ _ k) (Ev.neg (by omega) ?_)
   rw [tm2, tm2, td2 x bx, td2 y bY]
   by_cases h0 : x % 2 = 0
   ·
    refine Ev.pos (by omega) (ih (x / 2) y t (by omega) (by omega) hy (by omega) (by omega) bY ?_)
    rw [gcd_half h0 (by omega)]
    exact hr
   ·
    refine Ev.neg (by omega) ?_
    by_cases h1 : y % 2 = 0
    ·
     refine Ev.pos (by omega) (ih x (y / 2) t (by omega) hx (by omega) (by omega) bx (by omega) ?_)
     rw [Nat.gcd_comm, gcd_half h1 (by omega), Nat.gcd_comm]
     exact hr
    ·
     refine Ev.neg (by omega) ?_
     by_cases h2 : x > y
     ·
      refine Ev.pos (by omega) ?_
      have e : wrap64 ((x : Int) - (y : Int)) = ((x - y : Nat) : Int) := by rw [wrap64_of (by omega) (by omega)]; omega
      rw [e]
      refine ih (x - y) y t (by omega) (by omega) hy (by omega) (by omega) bY ?_
      rw [Nat.gcd_sub_self_left (by omega)]
      exact hr
     ·
      refine Ev.neg (by omega) ?_
      have e : wrap64 ((y : Int) - (x : Int)) = ((y - x : Nat) : Int) := by rw [wrap64_of (by omega) (by omega)]; omega
      rw [e]
      refine ih x (y - x) t (by omega) hx (by omega) (by omega) bx (by omega) ?_
      rw [Nat.gcd_sub_self_right (by omega)]
      exact hr
theorem div_l0 : ∀ (n x y t : Nat) {r : Int}, x ≤ n → 0 < x → 0 < y → x ≤ 9223372036854775807 → y ≤ 9223372036854775807 → t + n ≤ 9223372036854775807 →
  Ev (fun k => hushref1_Divisor.l2 k ((Nat.gcd x y : Nat) : Int) (t : Int)) r → Ev (fun k => hushref1_Divisor.l0 k (x : Int) (y : Int) (t : Int)) r := by
 intro n
 induction n with
 | zero => intro x y t r h hx; omega
 | succ n ih =>
  intro x y t r h hx hy bx bY ht hr
  have hj : (x % 2 = 1 ∨ y % 2 = 1) → Ev (fun k => hushref1_Divisor.j1 k (x : Int) (y : Int) (t : Int)) r := fun ho =>
   Ev.step (fun k => hushref1_Divisor.j1.eq_2 _ _ _ k) (div_l1 (x + y) x y t (Nat.le_refl _) hx hy ho bx bY hr)
  refine Ev.step (fun k => hushref1_Divisor.l0.eq_2 _ _ _ k) ?_
  rw [tm2, tm2, td2 x bx, td2 y bY]
  by_cases h0 : x % 2 = 0
  ·
   by_cases h1 : y % 2 = 0
   ·
    have e : wrap64 ((t : Int) + 1) = ((t + 1 : Nat) : Int) := by rw [wrap64_of (by omega) (by omega)]; omega
    refine Ev.pos (by omega) (Ev.pos (by omega) ?_)
    rw [e]
    refine ih (x / 2) (y / 2) (t + 1) (by omega) (by omega) (by omega) (by omega) (by omega) (by omega) ?_
    have hg : Nat.gcd x y = 2 * Nat.gcd (x / 2) (y / 2) := by
     rw [← Nat.gcd_mul_left]
     congr 1 <;> omega
    have hle : Nat.gcd x y ≤ x := Nat.gcd_le_left y hx
    refine Ev.step (fun k => hushref1_Divisor.l2.eq_2 _ _ k) (Ev.pos (by omega) ?_)
    have e1 : wrap64 (2 * ((Nat.gcd (x / 2) (y / 2) : Nat) : Int)) = ((Nat.gcd x y : Nat) : Int) := by rw [wrap64_of (by omega) (by omega)]; omega
    have e2 : wrap64 (((t + 1 : Nat) : Int) - 1) = ((t : Nat) : Int) := by rw [wrap64_of (by omega) (by omega)]; omega
    simp only [e1, e2]
    exact hr
   ·
    exact Ev.pos (by omega) (Ev.neg (by omega) (hj (by omega)))
  ·
   exact Ev.neg (by omega) (hj (by omega))
theorem div_ev {u d : Int} (hu : 0 ≤ u) (hd : 1 ≤ d) (bu : u ≤ 9223372036854775807) (bd : d ≤ 9223372036854775807) : Ev (fun k => hushref1_Divisor.f k u d) ((Int.gcd u d : Nat) : Int) := by
 obtain ⟨x, rfl⟩ := Int.eq_ofNat_of_zero_le hu
 obtain ⟨y, rfl⟩ := Int.eq_ofNat_of_zero_le (show 0 ≤ d by omega)
 by_cases h0 : x = 0
 ·
  subst h0
  refine Ev.pos rfl (Ev.eq (Ev.ret _) ?_)
  simp
 ·
  refine Ev.neg (by omega) ?_
  show Ev (fun k => hushref1_Divisor.l0 k (x : Int) (y : Int) 0) ((Nat.gcd x y : Nat) : Int)
  refine div_l0 x x y 0 (Nat.le_refl _) (by omega) (by omega) (by omega) (by omega) (by omega) ?_
  refine Ev.eq (div_l2 0 (Nat.gcd x y) (by omega) ?_) (by simp)
  have := Nat.gcd_le_left y (show 0 < x by omega)
  simp
  omega
theorem rmake_ev {u d : Int} (hu : -9223372036854775808 ≤ u ∧ u ≤ 9223372036854775807) (hd : -9223372036854775808 ≤ d ∧ d ≤ 9223372036854775807) : Ev (fun k => hushref1_Make.f k u d) (makeS u d) := by
 have hj : ∀ b, b = decide (u < 0 ∨ d < 1) → Ev (fun k => hushref1_Make.j0 k u d b) (makeS u d) := fun b hb =>
  Ev.step (fun k => hushref1_Make.j0.eq_2 _ _ _ k) (make_j (fun h0 h1 => div_ev h0 h1 hu.2 hd.2) hu hd b hb)
 by_cases h : u < 0
 ·
  exact Ev.pos h (hj true (by simp [h]))
 ·
  exact Ev.neg h (hj _ (by simp [h]))
theorem rright_ev {u d : Int} (hu : -9223372036854775808 ≤ u ∧ u ≤ 9223372036854775807) (hd : -9223372036854775808 ≤ d ∧ d ≤ 9223372036854775807) : Ev (fun k => hushref1_Right.f k u d) (rightS u d) := right_g (fun h0 h1 => div_ev h0 h1 hu.2 hd.2)
end Go.Proofs.Yteajcjalpofalaa.RatioSpec
end
section
namespace Go.Proofs.Yteajcjalpofalaa.RatioSpec
set_option linter.unusedVariables false
open Go.RowKit Go.Proofs.Yteajcjalpofalaa.PA Go.Proofs.YteajcjalpofalaaW.PrintWords Go.Proofs.YteajcjalpofalaaW.PrintLast Go.Proofs.YteajcjalpofalaaW.PrintMore Go.Proofs.YteajcjalpofalaaW.EvKit
theorem right4 {a0 a1 b0 b1 : Int} (h : rightS a0 a1 = true) (h' : rightS b0 b1 = true) :
  (0 ≤ a0 * b0 ∧ a0 * b0 ≤ 1152921504606846976) ∧ (0 ≤ a1 * b1 ∧ a1 * b1 ≤ 1152921504606846976) ∧ (0 ≤ a0 * b1 ∧ a0 * b1 ≤ 1152921504606846976) ∧ (0 ≤ b0 * a1 ∧ b0 * a1 ≤ 1152921504606846976) := by
 obtain ⟨p1, p2, p3, p4, _⟩ := rightS_iff.1 h
 obtain ⟨q1, q2, q3, q4, _⟩ := rightS_iff.1 h'
 exact ⟨mul_bd p1 p3 q1 q3, mul_bd (by omega) p4 (by omega) q4, mul_bd p1 p3 (by omega) q4, mul_bd q1 q3 (by omega) p4⟩
theorem times_m {m : Nat → Int → Int → Option (Int × Int × Int)} {a0 a1 b0 b1 : Int} (hm : ∀ {u d : Int}, (-9223372036854775808 ≤ u ∧ u ≤ 9223372036854775807) → (-9223372036854775808 ≤ d ∧ d ≤ 9223372036854775807) → Ev (fun k => m k u d) (makeS u d))
  (h : rightS a0 a1 = true) (h' : rightS b0 b1 = true) : Ev (fun k => m k (wrap64 (a0 * b0)) (wrap64 (a1 * b1))) (makeS (a0 * b0) (a1 * b1)) := by
 obtain ⟨k1, k2, k3, k4⟩ := right4 h h'
 rw [wrap64_of (by omega) (by omega), wrap64_of (by omega) (by omega)]
 exact hm (by omega) (by omega)
theorem plus_m {m : Nat → Int → Int → Option (Int × Int × Int)} {a0 a1 b0 b1 : Int} (hm : ∀ {u d : Int}, (-9223372036854775808 ≤ u ∧ u ≤ 9223372036854775807) → (-9223372036854775808 ≤ d ∧ d ≤ 9223372036854775807) → Ev (fun k => m k u d) (makeS u d))
  (h : rightS a0 a1 = true) (h' : rightS b0 b1 = true) : Ev (fun k => m k (wrap64 ((wrap64 (a0 * b1)) + (wrap64 (b0 * a1)))) (wrap64 (a1 * b1))) (makeS (a0 * b1 + b0 * a1) (a1 * b1)) := by
 obtain ⟨k1, k2, k3, k4⟩ := right4 h h'
 rw [wrap64_of (x := a0 * b1) (by omega) (by omega), wrap64_of (x := b0 * a1) (by omega) (by omega), wrap64_of (x := a1 * b1) (by omega) (by omega), wrap64_of (by omega) (by omega)]
 exact hm (by omega) (by omega)
theorem minus_m {m : Nat → Int → Int → Option (Int × Int × Int)} {a0 a1 b0 b1 : Int} (hm : ∀ {u d : Int}, (-9223372036854775808 ≤ u ∧ u ≤ 9223372036854775807) → (-9223372036854775808 ≤ d ∧ d ≤ 9223372036854775807) → Ev (fun k => m k u d) (makeS u d))
  (h : rightS a0 a1 = true) (h' : rightS b0 b1 = true) : Ev (fun k => m k (wrap64 ((wrap64 (a0 * b1)) - (wrap64 (b0 * a1)))) (wrap64 (a1 * b1))) (makeS (a0 * b1 - b0 * a1) (a1 * b1)) := by
 obtain ⟨k1, k2, k3, k4⟩ := right4 h h'
 rw [wrap64_of (x := a0 * b1) (by omega) (by omega), wrap64_of (x := b0 * a1) (by omega) (by omega), wrap64_of (x := a1 * b1) (by omega) (by omega), wrap64_of (by omega) (by omega)]
 exact hm (by omega) (by omega)
theorem times_ev (a0 a1 b0 b1 : Int) : Ev (fun k => ratio_Times.f k a0 a1 b0 b1) (timesS a0 a1 b0 b1) := both_ev (R := ratio_Right.f) right_ev (times_m make_ev)
theorem plus_ev (a0 a1 b0 b1 : Int) : Ev (fun k => ratio_Plus.f k a0 a1 b0 b1) (plusS a0 a1 b0 b1) := both_ev (R := ratio_Right.f) right_ev (plus_m make_ev)
theorem minus_ev (a0 a1 b0 b1 : Int) : Ev (fun k => ratio_Minus.f k a0 a1 b0 b1) (minusS a0 a1 b0 b1) := both_ev (R := ratio_Right.f) right_ev (minus_m make_ev)
end Go.Proofs.Yteajcjalpofalaa.RatioSpec
end
section
namespace Go.Proofs.Yteajcjalpofalaa.RatioSpec
set_option linter.unusedVariables false
open Go.RowKit Go.Proofs.Yteajcjalpofalaa.PA Go.Proofs.YteajcjalpofalaaW.PrintWords Go.Proofs.YteajcjalpofalaaW.PrintLast Go.Proofs.YteajcjalpofalaaW.PrintMore Go.Proofs.YteajcjalpofalaaW.EvKit
theorem rboth_ev {m : Nat → Option (Int × Int × Int)} {a0 a1 b0 b1 : Int} {r : Int × Int × Int} (ha : -9223372036854775808 ≤ a0 ∧ a0 ≤ 9223372036854775807) (ha1 : -9223372036854775808 ≤ a1 ∧ a1 ≤ 9223372036854775807) (hb : -9223372036854775808 ≤ b0 ∧ b0 ≤ 9223372036854775807) (hb1 : -9223372036854775808 ≤ b1 ∧ b1 ≤ 9223372036854775807)
  (hm : rightS a0 a1 = true → rightS b0 b1 = true → Ev m r) :
  Ev (fun k => (hushref1_Right.f k a0 a1).bind fun t => (if t = true then ((hushref1_Right.f k b0 b1).bind fun u => (if u = true then ((m k).bind fun b => some (b.1, b.2.1, b.2.2)) else (some (0, 0, 2)))) else (some (0, 0, 2)))) (bothS a0 a1 b0 b1 r) := by
 unfold bothS
 refine Ev.bind (rright_ev ha ha1) ?_
 cases h : rightS a0 a1 with
 | false => exact Ev.neg (by simp) (Ev.eq (Ev.ret _) (by simp))
 | true =>
  refine Ev.pos rfl (Ev.bind (rright_ev hb hb1) ?_)
  cases h' : rightS b0 b1 with
  | false => exact Ev.neg (by simp) (Ev.eq (Ev.ret _) (by simp))
  | true => exact Ev.pos rfl (Ev.eq (Ev.bind (hm h h') (Ev.ret _)) (by simp))
theorem rtimes_ev {a0 a1 b0 b1 : Int} (ha : -9223372036854775808 ≤ a0 ∧ a0 ≤ 9223372036854775807) (ha1 : -9223372036854775808 ≤ a1 ∧ a1 ≤ 9223372036854775807) (hb : -9223372036854775808 ≤ b0 ∧ b0 ≤ 9223372036854775807) (hb1 : -9223372036854775808 ≤ b1 ∧ b1 ≤ 9223372036854775807) :
  Ev (fun k => hushref1_Times.f k a0 a1 b0 b1) (timesS a0 a1 b0 b1) := rboth_ev ha ha1 hb hb1 (times_m rmake_ev)
theorem rplus_ev {a0 a1 b0 b1 : Int} (ha : -9223372036854775808 ≤ a0 ∧ a0 ≤ 9223372036854775807) (ha1 : -9223372036854775808 ≤ a1 ∧ a1 ≤ 9223372036854775807) (hb : -9223372036854775808 ≤ b0 ∧ b0 ≤ 9223372036854775807) (hb1 : -9223372036854775808 ≤ b1 ∧ b1 ≤ 9223372036854775807) :
  Ev (fun k => hushref1_Plus.f k a0 a1 b0 b1) (plusS a0 a1 b0 b1) := rboth_ev ha ha1 hb hb1 (plus_m rmake_ev)
theorem rminus_ev {a0 a1 b0 b1 : Int} (ha : -9223372036854775808 ≤ a0 ∧ a0 ≤ 9223372036854775807) (ha1 : -9223372036854775808 ≤ a1 ∧ a1 ≤ 9223372036854775807) (hb : -9223372036854775808 ≤ b0 ∧ b0 ≤ 9223372036854775807) (hb1 : -9223372036854775808 ≤ b1 ∧ b1 ≤ 9223372036854775807) :
  Ev (fun k => hushref1_Minus.f k a0 a1 b0 b1) (minusS a0 a1 b0 b1) := rboth_ev ha ha1 hb hb1 (minus_m rmake_ev)
theorem makeS_bd (u d : Int) : (0 ≤ (makeS u d).1 ∧ (makeS u d).1 ≤ 1073741824) ∧ (0 ≤ (makeS u d).2.1 ∧ (makeS u d).2.1 ≤ 1073741824) := by
 unfold makeS
 split
 ·
  exact ⟨⟨by decide, by decide⟩, ⟨by decide, by decide⟩⟩
 ·
  rename_i h
  split
  ·
   exact ⟨⟨by decide, by decide⟩, ⟨by decide, by decide⟩⟩
  ·
   rename_i h2
   have h3 : 0 ≤ u / (Int.gcd u d : Nat) := Int.ediv_nonneg (by omega) (by omega)
   have h4 : 0 ≤ d / (Int.gcd u d : Nat) := Int.ediv_nonneg (by omega) (by omega)
   exact ⟨⟨h3, by dsimp only; omega⟩, ⟨h4, by dsimp only; omega⟩⟩
theorem bothS_bd {a0 a1 b0 b1 u d : Int} : (0 ≤ (bothS a0 a1 b0 b1 (makeS u d)).1 ∧ (bothS a0 a1 b0 b1 (makeS u d)).1 ≤ 1073741824) ∧ (0 ≤ (bothS a0 a1 b0 b1 (makeS u d)).2.1 ∧ (bothS a0 a1 b0 b1 (makeS u d)).2.1 ≤ 1073741824) := by
 unfold bothS
 split
 ·
  exact makeS_bd u d
 ·
  exact ⟨⟨by decide, by decide⟩, ⟨by decide, by decide⟩⟩
end Go.Proofs.Yteajcjalpofalaa.RatioSpec
end
section
namespace Go.Proofs.Yteajcjalpofalaa.DistPure
set_option linter.unusedVariables false
set_option linter.unusedSimpArgs false
open Go.RowKit Go.Proofs.Yteajcjalpofalaa.PA Go.Proofs.YteajcjalpofalaaW.PrintWords Go.Proofs.YteajcjalpofalaaW.PrintLast Go.Proofs.YteajcjalpofalaaW.PrintMore Go.Proofs.YteajcjalpofalaaW.EvKit
def capN (x : Nat) : Nat := if x > 1073741824 then 1073741825 else x
theorem pow_grow (a acc m : Nat) (ha : 1 ≤ a) : acc ≤ acc * a ^ m := Nat.le_mul_of_pos_right _ (Nat.pow_pos ha)
theorem rpow_loop (a n : Nat) (ha : 1 ≤ a) (ha' : a ≤ 1073741824) (hn : n ≤ 4096) : ∀ (m i acc : Nat), i + m = n → acc ≤ 1152921504606846976 →
  hushref6_Power.L0 (a : Int) (n : Int) (acc : Int) (i : Int) = some ((capN (acc * a ^ m) : Nat) : Int) := by
 intro m
 induction m with
 | zero =>
  intro i acc hi hacc
  rw [hushref6_Power.L0_eq, if_neg (by omega), Nat.pow_zero, Nat.mul_one]
  unfold capN
  by_cases c : acc > 1073741824
  ·
   rw [if_pos (by omega), if_pos c]; rfl
  ·
   rw [if_neg (by omega), if_neg c]
 | succ m ih =>
  intro i acc hi hacc
  have ep : acc * a ^ (m + 1) = acc * a * a ^ m := by rw [Nat.pow_succ, Nat.mul_comm (a ^ m), Nat.mul_assoc]
  rw [hushref6_Power.L0_eq, if_pos (by omega), ep]
  by_cases c : acc ≤ 1073741824
  ·
   have hb : acc * a ≤ 1073741824 * 1073741824 := Nat.mul_le_mul c ha'
   have e : wrap64 ((acc : Int) * (a : Int)) = ((acc * a : Nat) : Int) := by rw [← Int.natCast_mul, wrap64_of (by omega) (by omega)]
   rw [if_pos (by omega), e, w1 (by omega)]
   exact ih (i + 1) (acc * a) (by omega) (by omega)
  ·
   have h1 := pow_grow a acc 1 ha
   rw [Nat.pow_one] at h1
   have h2 := pow_grow a (acc * a) m ha
   rw [if_neg (by omega), if_pos (by omega)]
   unfold capN
   rw [if_pos (by omega)]
   rfl
theorem rpowF {a n : Nat} (ha : 1 ≤ a) (ha' : a ≤ 1073741824) (hn : n ≤ 4096) : hushref6_Power.F (a : Int) (n : Int) = some ((capN (a ^ n) : Nat) : Int) := by
 rw [hushref6_Power.F_eq]
 have h := rpow_loop a n ha ha' hn n 0 1 (by omega) (by omega)
 rw [Nat.one_mul] at h
 exact h
theorem capN_small {x : Nat} (h : x ≤ 1073741824) : capN x = x := by unfold capN; rw [if_neg (by omega)]
end Go.Proofs.Yteajcjalpofalaa.DistPure
end
section
namespace Go.Proofs.Yteajcjalpofalaa.PA
set_option maxRecDepth 100000
open Go.RowKit Go.Proofs.YteajcjalpofalaaW.PrintWords Go.Proofs.YteajcjalpofalaaW.PrintLast Go.Proofs.YteajcjalpofalaaW.PrintMore
open Go.Proofs.YteajcjalpofalaaW.EvKit
set_option linter.unusedVariables false
noncomputable def hushlaw11_SampleSubsets.J0 (x33 : Bool) (x281000 : Int) (x281001 : Int) (x282000 : Int) (x282001 : Int) : Option (Bool) := lim (fun k => hushlaw11_SampleSubsets.j0 k x33 x281000 x281001 x282000 x282001)
theorem hushlaw11_SampleSubsets.J0_is (x33 : Bool) (x281000 : Int) (x281001 : Int) (x282000 : Int) (x282001 : Int) : LimIs (fun k => hushlaw11_SampleSubsets.j0 k x33 x281000 x281001 x282000 x282001) (hushlaw11_SampleSubsets.J0 x33 x281000 x281001 x282000 x282001) := ⟨fun k => (hushlaw11_SampleSubsets.mono_l k) x33 x281000 x281001 x282000 x282001, rfl⟩
noncomputable def hushref11_Lost.F (a0_0 : Int) (a0_1 : Int) (a1_0 : Int) (a1_1 : Int) : Option (Int × Int × Int) := lim (fun k => hushref11_Lost.f k a0_0 a0_1 a1_0 a1_1)
theorem hushref11_Lost.F_is (a0_0 : Int) (a0_1 : Int) (a1_0 : Int) (a1_1 : Int) : LimIs (fun k => hushref11_Lost.f k a0_0 a0_1 a1_0 a1_1) (hushref11_Lost.F a0_0 a0_1 a1_0 a1_1) := ⟨fun k => hushref11_Lost.mono a0_0 a0_1 a1_0 a1_1 k, rfl⟩
noncomputable def hushlaw11_SampleSubsets.F (a0_0 : Int) (a0_1 : Int) (a1 : Int) (a2_0 : Int) (a2_1 : Int) : Option (Bool) := lim (fun k => hushlaw11_SampleSubsets.f k a0_0 a0_1 a1 a2_0 a2_1)
theorem hushlaw11_SampleSubsets.F_is (a0_0 : Int) (a0_1 : Int) (a1 : Int) (a2_0 : Int) (a2_1 : Int) : LimIs (fun k => hushlaw11_SampleSubsets.f k a0_0 a0_1 a1 a2_0 a2_1) (hushlaw11_SampleSubsets.F a0_0 a0_1 a1 a2_0 a2_1) := ⟨fun k => hushlaw11_SampleSubsets.mono a0_0 a0_1 a1 a2_0 a2_1 k, rfl⟩
theorem hushlaw11_SampleSubsets.J0_eq (x33 : Bool) (x281000 : Int) (x281001 : Int) (x282000 : Int) (x282001 : Int) : hushlaw11_SampleSubsets.J0 x33 x281000 x281001 x282000 x282001 = if x33 = true then (some false) else ((sample_Lost.F x281000 x281001 x282000 x282001).bind fun bt291 => ((hushref11_Lost.F x281000 x281001 x282000 x282001).bind fun bt295 => (if (bt291.1 == bt295.1 && (bt291.2.1 == bt295.2.1)) = true then (some (bt291.2.2 == bt295.2.2)) else (some false)))) := by
 refine LimIs.step' (hushlaw11_SampleSubsets.J0_is x33 x281000 x281001 x282000 x282001).1 (b := fun k => if x33 = true then (some false) else ((sample_Lost.f k x281000 x281001 x282000 x282001).bind fun bt291 => ((hushref11_Lost.f k x281000 x281001 x282000 x282001).bind fun bt295 => (if (bt291.1 == bt295.1 && (bt291.2.1 == bt295.2.1)) = true then (some (bt291.2.2 == bt295.2.2)) else (some false))))) (fun k => by first | rfl | rw [hushlaw11_SampleSubsets.j0]) ?_
 repeat' first
  | (with_reducible exact sample_Lost.F_is _ _ _ _)
  | (with_reducible exact hushref11_Lost.F_is _ _ _ _)
  | (with_reducible exact LimIs.const _)
  | (with_reducible refine LimIs.ite ?_ ?_)
  | (with_reducible refine LimIs.bind ?_ (fun _ => ?_))
  | exact sample_Lost.F_is _ _ _ _
  | exact hushref11_Lost.F_is _ _ _ _
  | exact LimIs.const _
  | refine LimIs.ite ?_ ?_
  | refine LimIs.bind ?_ (fun _ => ?_)
theorem hushref11_Lost.F_eq (a0_0 : Int) (a0_1 : Int) (a1_0 : Int) (a1_1 : Int) : hushref11_Lost.F a0_0 a0_1 a1_0 a1_1 = (hushref11_Chance.F a0_0 a0_1).bind fun t267 => (if t267 = 0 then ((hushref1_Minus.F a1_0 a1_1 1 1).bind fun bt269 => (if bt269.2.2 = 0 then ((hushref1_Times.F a0_0 a0_1 bt269.1 bt269.2.1).bind fun bt273 => (if bt273.2.2 = 0 then ((hushref1_Plus.F 1 1 bt273.1 bt273.2.1).bind fun bt277 => (some (bt277.1, bt277.2.1, bt277.2.2))) else (some (0, 0, bt273.2.2)))) else (some (0, 0, bt269.2.2)))) else (some (0, 0, t267))) := by
 refine LimIs.out (?_ : LimIs (fun k => (hushref11_Chance.f k a0_0 a0_1).bind fun t267 => (if t267 = 0 then ((hushref1_Minus.f k a1_0 a1_1 1 1).bind fun bt269 => (if bt269.2.2 = 0 then ((hushref1_Times.f k a0_0 a0_1 bt269.1 bt269.2.1).bind fun bt273 => (if bt273.2.2 = 0 then ((hushref1_Plus.f k 1 1 bt273.1 bt273.2.1).bind fun bt277 => (some (bt277.1, bt277.2.1, bt277.2.2))) else (some (0, 0, bt273.2.2)))) else (some (0, 0, bt269.2.2)))) else (some (0, 0, t267)))) _)
 repeat' first
  | (with_reducible exact hushref11_Chance.F_is _ _)
  | (with_reducible exact hushref1_Minus.F_is _ _ _ _)
  | (with_reducible exact hushref1_Times.F_is _ _ _ _)
  | (with_reducible exact hushref1_Plus.F_is _ _ _ _)
  | (with_reducible exact LimIs.const _)
  | (with_reducible refine LimIs.ite ?_ ?_)
  | (with_reducible refine LimIs.bind ?_ (fun _ => ?_))
  | exact hushref11_Chance.F_is _ _
  | exact hushref1_Minus.F_is _ _ _ _
  | exact hushref1_Times.F_is _ _ _ _
  | exact hushref1_Plus.F_is _ _ _ _
  | exact LimIs.const _
  | refine LimIs.ite ?_ ?_
  | refine LimIs.bind ?_ (fun _ => ?_)
theorem hushlaw11_SampleSubsets.F_eq (a0_0 : Int) (a0_1 : Int) (a1 : Int) (a2_0 : Int) (a2_1 : Int) : hushlaw11_SampleSubsets.F a0_0 a0_1 a1 a2_0 a2_1 = (sample_Subsets.F a0_0 a0_1 a1).bind fun bt282 => ((hushref11_Subsets.F a0_0 a0_1 a1).bind fun bt286 => ((hushref2_Same.F bt282.1 bt286.1).bind fun t290 => (if t290 = true then (hushlaw11_SampleSubsets.J0 (bt282.2 != bt286.2) a0_0 a0_1 a2_0 a2_1) else (hushlaw11_SampleSubsets.J0 true a0_0 a0_1 a2_0 a2_1)))) := by
 refine LimIs.out (?_ : LimIs (fun k => (sample_Subsets.f k a0_0 a0_1 a1).bind fun bt282 => ((hushref11_Subsets.f k a0_0 a0_1 a1).bind fun bt286 => ((hushref2_Same.f k bt282.1 bt286.1).bind fun t290 => (if t290 = true then (hushlaw11_SampleSubsets.j0 k (bt282.2 != bt286.2) a0_0 a0_1 a2_0 a2_1) else (hushlaw11_SampleSubsets.j0 k true a0_0 a0_1 a2_0 a2_1))))) _)
 repeat' first
  | (with_reducible exact sample_Subsets.F_is _ _ _)
  | (with_reducible exact hushref11_Subsets.F_is _ _ _)
  | (with_reducible exact hushref2_Same.F_is _ _)
  | (with_reducible exact hushlaw11_SampleSubsets.J0_is _ _ _ _ _)
  | (with_reducible exact LimIs.const _)
  | (with_reducible refine LimIs.ite ?_ ?_)
  | (with_reducible refine LimIs.bind ?_ (fun _ => ?_))
  | exact sample_Subsets.F_is _ _ _
  | exact hushref11_Subsets.F_is _ _ _
  | exact hushref2_Same.F_is _ _
  | exact hushlaw11_SampleSubsets.J0_is _ _ _ _ _
  | exact LimIs.const _
  | refine LimIs.ite ?_ ?_
  | refine LimIs.bind ?_ (fun _ => ?_)
end Go.Proofs.Yteajcjalpofalaa.PA
end
section
namespace Go.Proofs.Yteajcjalpofalaa.DistPure
set_option linter.unusedVariables false
set_option linter.unusedSimpArgs false
open Go.RowKit Go.Proofs.Yteajcjalpofalaa.PA Go.Proofs.YteajcjalpofalaaW.PrintWords Go.Proofs.YteajcjalpofalaaW.PrintLast Go.Proofs.YteajcjalpofalaaW.PrintMore Go.Proofs.YteajcjalpofalaaW.EvKit
def I64 (x : Int) : Prop := -9223372036854775808 ≤ x ∧ x ≤ 9223372036854775807
def chanceQ (u d : Int) : Int := if RatioSpec.rightS u d = true then (if u > d then 3 else 0) else 2
theorem chance_both {u d : Int} (hu : I64 u) (hd : I64 d) : sample_chance.F u d = some (chanceQ u d) ∧ hushref11_Chance.F u d = some (chanceQ u d) := by
 have h1 : ratio_Right.F u d = some (RatioSpec.rightS u d) := (ratio_Right.F_is u d).of_ev (RatioSpec.right_ev u d)
 have h2 : hushref1_Right.F u d = some (RatioSpec.rightS u d) := (hushref1_Right.F_is u d).of_ev (RatioSpec.rright_ev hu hd)
 rw [sample_chance.F_eq, h1, Option.bind_some, hushref11_Chance.F_eq, h2, Option.bind_some]
 unfold chanceQ
 constructor <;> · split <;> (try split) <;> rfl
theorem lost_both {u d x y : Int} (hu : I64 u) (hd : I64 d) (hx : I64 x) (hy : I64 y) : ∃ r : Int × Int × Int, sample_Lost.F u d x y = some r ∧ hushref11_Lost.F u d x y = some r := by
 obtain ⟨e1, e2⟩ := chance_both hu hd
 have one : I64 1 := ⟨by decide, by decide⟩
 rw [sample_Lost.F_eq, e1, Option.bind_some, hushref11_Lost.F_eq, e2, Option.bind_some]
 by_cases c : chanceQ u d = 0
 ·
  have m1 : ratio_Minus.F x y 1 1 = some (RatioSpec.minusS x y 1 1) := (ratio_Minus.F_is x y 1 1).of_ev (RatioSpec.minus_ev x y 1 1)
  have m2 : hushref1_Minus.F x y 1 1 = some (RatioSpec.minusS x y 1 1) := (hushref1_Minus.F_is x y 1 1).of_ev (RatioSpec.rminus_ev hx hy one one)
  have mb : (0 ≤ (RatioSpec.minusS x y 1 1).1 ∧ (RatioSpec.minusS x y 1 1).1 ≤ 1073741824) ∧ (0 ≤ (RatioSpec.minusS x y 1 1).2.1 ∧ (RatioSpec.minusS x y 1 1).2.1 ≤ 1073741824) := RatioSpec.bothS_bd
  rw [if_pos c, if_pos c, m1, m2, Option.bind_some, Option.bind_some]
  generalize RatioSpec.minusS x y 1 1 = m at *
  by_cases c2 : m.2.2 = 0
  ·
   have t1 : ratio_Times.F u d m.1 m.2.1 = some (RatioSpec.timesS u d m.1 m.2.1) := (ratio_Times.F_is u d m.1 m.2.1).of_ev (RatioSpec.times_ev u d m.1 m.2.1)
   have t2 : hushref1_Times.F u d m.1 m.2.1 = some (RatioSpec.timesS u d m.1 m.2.1) := (hushref1_Times.F_is u d m.1 m.2.1).of_ev (RatioSpec.rtimes_ev hu hd ⟨by omega, by omega⟩ ⟨by omega, by omega⟩)
   have tb : (0 ≤ (RatioSpec.timesS u d m.1 m.2.1).1 ∧ (RatioSpec.timesS u d m.1 m.2.1).1 ≤ 1073741824) ∧ (0 ≤ (RatioSpec.timesS u d m.1 m.2.1).2.1 ∧ (RatioSpec.timesS u d m.1 m.2.1).2.1 ≤ 1073741824) := RatioSpec.bothS_bd
   rw [if_pos c2, if_pos c2, t1, t2, Option.bind_some, Option.bind_some]
   generalize RatioSpec.timesS u d m.1 m.2.1 = t at *
   by_cases c3 : t.2.2 = 0
   ·
    have p1 : ratio_Plus.F 1 1 t.1 t.2.1 = some (RatioSpec.plusS 1 1 t.1 t.2.1) := (ratio_Plus.F_is 1 1 t.1 t.2.1).of_ev (RatioSpec.plus_ev 1 1 t.1 t.2.1)
    have p2 : hushref1_Plus.F 1 1 t.1 t.2.1 = some (RatioSpec.plusS 1 1 t.1 t.2.1) := (hushref1_Plus.F_is 1 1 t.1 t.2.1).of_ev (RatioSpec.rplus_ev one one ⟨by omega, by omega⟩ ⟨by omega, by omega⟩)
    rw [if_pos c3, if_pos c3, p1, p2, Option.bind_some]
    exact ⟨_, rfl, rfl⟩
   ·
    rw [if_neg c3, if_neg c3]
    exact ⟨_, rfl, rfl⟩
  ·
   rw [if_neg c2, if_neg c2]
   exact ⟨_, rfl, rfl⟩
 ·
  rw [if_neg c, if_neg c]
  exact ⟨_, rfl, rfl⟩
def bitW (u e s j : Nat) : Nat := if s / 2 ^ j % 2 = 1 then u else e
def subW (u e s : Nat) : Nat → Nat
 | 0 => 1
 | j + 1 => subW u e s j * bitW u e s j
theorem subW_le {u e d : Nat} (hu : u ≤ d) (he : e ≤ d) (s : Nat) : ∀ j, subW u e s j ≤ d ^ j
 | 0 => Nat.le_refl 1
 | j + 1 => by
  rw [subW, Nat.pow_succ]
  exact Nat.mul_le_mul (subW_le hu he s j) (by unfold bitW; split <;> assumption)
def subL (u e j : Nat) : List Int := (List.range (2 ^ j)).map (fun s => ((subW u e s j : Nat) : Int))
theorem subL_len (u e j : Nat) : (subL u e j).length = 2 ^ j := by unfold subL; simp
theorem subL_rd {u e j s : Nat} (h : s < 2 ^ j) : rd (subL u e j) (s : Int) = ((subW u e s j : Nat) : Int) := by
 unfold subL
 rw [rd_nat, List.getD_eq_getElem?_getD, List.getElem?_map, List.getElem?_range h]; rfl
theorem bit_low {s j : Nat} (h : s < 2 ^ j) : s / 2 ^ j = 0 := Nat.div_eq_of_lt h
theorem bit_high {s j : Nat} (h : s < 2 ^ j) : (2 ^ j + s) / 2 ^ j = 1 := by
 rw [Nat.add_comm, Nat.add_div_right _ (Nat.pow_pos (by omega)), Nat.div_eq_of_lt h]
theorem bit_same {s i j : Nat} (h : i < j) : (2 ^ j + s) / 2 ^ i % 2 = s / 2 ^ i % 2 := by
 have e : 2 ^ j = 2 ^ i * (2 * 2 ^ (j - i - 1)) := by
  rw [← Nat.pow_succ', ← Nat.pow_add]; congr 1; omega
 rw [e, Nat.add_comm, Nat.add_mul_div_left _ _ (Nat.pow_pos (by omega))]
 omega
theorem subW_same {u e s j : Nat} : ∀ i, i ≤ j → subW u e (2 ^ j + s) i = subW u e s i
 | 0, _ => rfl
 | i + 1, h => by
  rw [subW, subW, subW_same i (by omega)]
  unfold bitW
  rw [bit_same (by omega)]
theorem subL_succ (u e j : Nat) : subL u e (j + 1) = (subL u e j).map (fun w => w * (e : Int)) ++ (subL u e j).map (fun w => w * (u : Int)) := by
 unfold subL
 rw [Nat.pow_succ, Nat.mul_two, List.range_add, List.map_append, List.map_map, List.map_map, List.map_map]
 congr 1
 ·
  refine List.map_congr_left (fun s hs => ?_)
  have hs := List.mem_range.1 hs
  show ((subW u e s j * bitW u e s j : Nat) : Int) = _
  unfold bitW
  rw [bit_low hs, if_neg (by decide), Int.natCast_mul]; rfl
 ·
  refine List.map_congr_left (fun s hs => ?_)
  have hs := List.mem_range.1 hs
  show ((subW u e (2 ^ j + s) j * bitW u e (2 ^ j + s) j : Nat) : Int) = _
  unfold bitW
  rw [bit_high hs, if_pos (by decide), subW_same j (Nat.le_refl j), Int.natCast_mul]; rfl
def parL (u e j n : Nat) : List S56 := (List.range n).map (fun s : Nat => (⟨[(s : Int)], ((subW u e s j : Nat) : Int)⟩ : S56))
theorem parL_succ (u e j n : Nat) : parL u e j (n + 1) = parL u e j n ++ [⟨[(n : Int)], ((subW u e n j : Nat) : Int)⟩] := by
 unfold parL; rw [List.range_succ, List.map_append]; rfl
theorem parL_len (u e j n : Nat) : (parL u e j n).length = n := by unfold parL; simp
theorem parL_bd (u e j n : Nat) (hn : n ≤ 1048576) : Bd (parL u e j n) := by
 refine ⟨by rw [parL_len]; exact hn, fun p hp => ?_⟩
 unfold parL at hp
 obtain ⟨z, _, rfl⟩ := List.mem_map.1 hp
 simp
theorem pow2_le {j : Nat} (h : j ≤ 10) : 2 ^ j ≤ 1024 := Nat.pow_le_pow_right (by omega) h
theorem sub_l3 (u e j : Nat) (hj : j ≤ 10) : ∀ (m i : Nat), i + m = 2 ^ j →
  sample_Subsets.L3 (parL u e j i) (subL u e j) (((2 ^ j : Nat)) : Int) (i : Int) = some (makeP (parL u e j (2 ^ j))) := by
 have hp := pow2_le hj
 intro m
 induction m with
 | zero =>
  intro i hi
  obtain rfl : i = 2 ^ j := by omega
  rw [sample_Subsets.L3_eq, if_neg (by omega), makeF1 _ (parL_bd u e j _ (by omega)), Option.bind_some]
 | succ m ih =>
  intro i hi
  have h1 := parL_len u e j i
  have h2 := subL_len u e j
  rw [sample_Subsets.L3_eq, if_pos (by omega), if_pos (by omega), if_pos (by omega), if_pos (by omega), subL_rd (by omega), w1 (by omega), ← parL_succ]
  exact ih (i + 1) (by omega)
theorem sub_l2 (u d : Nat) (hu : u ≤ d) (j : Nat) (hj : j ≤ 10) (hd : d ^ (j + 1) ≤ 1073741824) (x y : Int) : ∀ (m i : Nat), i + m = 2 ^ j →
  sample_Subsets.L2 (((subL u (d - u) j).take i).map (fun w => w * ((d - u : Nat) : Int)) ++ (subL u (d - u) j).drop i) (((subL u (d - u) j).take i).map (fun w => w * (u : Int))) x y ((2 ^ j : Nat) : Int) (i : Int) (u : Int) (d : Int) =
   sample_Subsets.L1 (subL u (d - u) (j + 1)) x (wrap64 (y + 1)) (u : Int) (d : Int) := by
 have hp := pow2_le hj
 have hl := subL_len u (d - u) j
 have hd0 : d ^ j * d ≤ 1073741824 := by rw [← Nat.pow_succ]; exact hd
 intro m
 induction m with
 | zero =>
  intro i hi
  obtain rfl : i = 2 ^ j := by omega
  rw [List.take_of_length_le (by omega), List.drop_of_length_le (by omega), List.append_nil, sample_Subsets.L2_eq, if_neg (by omega), if_pos (by rw [List.length_map, List.length_map, hl]; omega), ← subL_succ]
 | succ m ih =>
  intro i hi
  have hi' : i < (subL u (d - u) j).length := by omega
  have e0 : ((subL u (d - u) j).take i).length = i := by rw [List.length_take]; omega
  have eg : (subL u (d - u) j)[i] = ((subW u (d - u) i j : Nat) : Int) := by
   simp [subL]
  have hr : rd (((subL u (d - u) j).take i).map (fun w => w * ((d - u : Nat) : Int)) ++ (subL u (d - u) j).drop i) (i : Int) = ((subW u (d - u) i j : Nat) : Int) := by
   rw [rd_nat, List.getD_eq_getElem?_getD, List.getElem?_append_right (by rw [List.length_map, e0]; exact Nat.le_refl _), List.length_map, e0, Nat.sub_self, List.getElem?_drop, Nat.add_zero, List.getElem?_eq_getElem hi', eg]; rfl
  have hw := subW_le (u := u) (e := d - u) hu (by omega) i j
  have b1 : subW u (d - u) i j * (d - u) ≤ 1073741824 := Nat.le_trans (Nat.mul_le_mul hw (Nat.sub_le d u)) hd0
  have b2 : subW u (d - u) i j * u ≤ 1073741824 := Nat.le_trans (Nat.mul_le_mul hw hu) hd0
  have hdd : d ≤ 1073741824 := by
   rcases Nat.eq_zero_or_pos d with h | h
   ·
    omega
   ·
    have := Nat.pow_le_pow_right h (show 1 ≤ j + 1 by omega); rw [Nat.pow_one] at this; omega
  have w1' : wrap64 (((subW u (d - u) i j : Nat) : Int) * wrap64 ((d : Int) - (u : Int))) = ((subW u (d - u) i j : Nat) : Int) * ((d - u : Nat) : Int) := by
   have q : (d : Int) - (u : Int) = ((d - u : Nat) : Int) := by omega
   rw [q, wrap64_of (x := ((d - u : Nat) : Int)) (by omega) (by omega), ← Int.natCast_mul, wrap64_of (by omega) (by omega)]
  have w2' : wrap64 (((subW u (d - u) i j : Nat) : Int) * (u : Int)) = ((subW u (d - u) i j : Nat) : Int) * (u : Int) := by
   rw [← Int.natCast_mul, wrap64_of (by omega) (by omega)]
  have hlen : (((subL u (d - u) j).take i).map (fun w => w * ((d - u : Nat) : Int)) ++ (subL u (d - u) j).drop i).length = 2 ^ j := by
   rw [List.length_append, List.length_map, e0, List.length_drop, hl]; omega
  have hlen2 : (((subL u (d - u) j).take i).map (fun w => w * (u : Int))).length = i := by rw [List.length_map, e0]
  rw [sample_Subsets.L2_eq, if_pos (by omega), if_pos (by omega), if_pos (by rw [hlen]; omega), if_pos (by omega), hr, w1', w2', w1 (by omega), Int.toNat_natCast]
  have s1 : (((subL u (d - u) j).take i).map (fun w => w * ((d - u : Nat) : Int)) ++ (subL u (d - u) j).drop i).set i (((subW u (d - u) i j : Nat) : Int) * ((d - u : Nat) : Int)) = ((subL u (d - u) j).take (i + 1)).map (fun w => w * ((d - u : Nat) : Int)) ++ (subL u (d - u) j).drop (i + 1) := by
   rw [List.set_append_right _ _ (by rw [List.length_map, e0]; exact Nat.le_refl _), List.length_map, e0, Nat.sub_self, List.drop_eq_getElem_cons hi', List.set_cons_zero, List.take_succ_eq_append_getElem hi', List.map_append, List.append_assoc, eg]; rfl
  have s2 : ((subL u (d - u) j).take i).map (fun w => w * (u : Int)) ++ [((subW u (d - u) i j : Nat) : Int) * (u : Int)] = ((subL u (d - u) j).take (i + 1)).map (fun w => w * (u : Int)) := by
   rw [List.take_succ_eq_append_getElem hi', List.map_append, eg]; rfl
  rw [s1, s2]
  exact ih (i + 1) (by omega)
theorem sub_l1 (u d n : Nat) (hu : u ≤ d) (hn : n ≤ 10) (hd1 : 1 ≤ d) (hd : d ^ n ≤ 1073741824) : ∀ (m j : Nat), j + m = n →
  sample_Subsets.L1 (subL u (d - u) j) (n : Int) (j : Int) (u : Int) (d : Int) = some (makeP (parL u (d - u) n (2 ^ n))) := by
 intro m
 induction m with
 | zero =>
  intro j hj
  obtain rfl : j = n := by omega
  rw [sample_Subsets.L1_eq, if_neg (by omega), subL_len]
  exact sub_l3 u (d - u) j hn (2 ^ j) 0 (by omega)
 | succ m ih =>
  intro j hj
  have hp : d ^ (j + 1) ≤ d ^ n := Nat.pow_le_pow_right hd1 (by omega)
  have h := sub_l2 u d hu j (by omega) (by omega) (n : Int) (j : Int) (2 ^ j) 0 (by omega)
  rw [List.take_zero, List.map_nil, List.map_nil, List.nil_append, List.drop_zero] at h
  rw [sample_Subsets.L1_eq, if_pos (by omega), subL_len]
  refine h.trans ?_
  rw [w1 (by omega)]
  exact ih (j + 1) (by omega)
theorem sub_l0 (u d n : Nat) (hu : u ≤ d) (hn : n ≤ 10) (hd1 : 1 ≤ d) (hd2 : d ≤ 1073741824) : ∀ (m i : Nat), i + m = n → d ^ i ≤ 1073741824 →
  sample_Subsets.L0 (n : Int) ((d ^ i : Nat) : Int) (n : Int) (i : Int) (u : Int) (d : Int) = if d ^ n > 1073741824 then some ([], 4) else some (makeP (parL u (d - u) n (2 ^ n))) := by
 intro m
 induction m with
 | zero =>
  intro i hi hb
  obtain rfl : i = n := by omega
  rw [sample_Subsets.L0_eq, if_neg (by omega), if_neg (by omega)]
  exact sub_l1 u d i hu hn hd1 hb i 0 (by omega)
 | succ m ih =>
  intro i hi hb
  have hb2 : d ^ i * d ≤ 1073741824 * 1073741824 := Nat.mul_le_mul hb hd2
  have ew : wrap64 (((d ^ i : Nat) : Int) * (d : Int)) = ((d ^ (i + 1) : Nat) : Int) := by
   rw [← Int.natCast_mul, show d ^ i * d = d ^ (i + 1) from rfl, wrap64_of (by rw [Nat.pow_succ]; omega) (by rw [Nat.pow_succ]; omega)]
  have hmono : d ^ (i + 1) ≤ d ^ n := Nat.pow_le_pow_right hd1 (by omega)
  have kw : wrap64 ((i : Int) + 1) = ((i + 1 : Nat) : Int) := w1 (by omega)
  have k0 : (i : Int) < (n : Int) := by omega
  rw [sample_Subsets.L0_eq, if_pos k0, ew, kw]
  clear ew kw
  by_cases c : d ^ (i + 1) > 1073741824
  ·
   have c' : ((d ^ (i + 1) : Nat) : Int) > 1073741824 := by omega
   have c2 : d ^ n > 1073741824 := by omega
   rw [if_pos c', if_pos c2]
  ·
   have c' : ¬ ((d ^ (i + 1) : Nat) : Int) > 1073741824 := by omega
   rw [if_neg c']
   exact ih (i + 1) (by omega) (by omega)
theorem in_loop (n : Nat) (hn : n ≤ 10) : ∀ (m i s : Nat), i + m = n → s ≤ 1024 → hushref11_In.L0 (s : Int) (n : Int) (i : Int) = some ((((s / 2 ^ m % 2 : Nat) : Int)) == 1) := by
 intro m
 induction m with
 | zero =>
  intro i s hi hs
  rw [hushref11_In.L0_eq, if_neg (by omega), RatioSpec.tm2, Nat.pow_zero, Nat.div_one]
 | succ m ih =>
  intro i s hi hs
  rw [hushref11_In.L0_eq, if_pos (by omega), RatioSpec.td2 _ (by omega), w1 (by omega), ih (i + 1) (s / 2) (by omega) (by omega), Nat.div_div_eq_div_mul, Nat.pow_succ, Nat.mul_comm 2]
theorem inF {s i : Nat} (hi : i ≤ 10) (hs : s ≤ 1024) : hushref11_In.F (s : Int) (i : Int) = some ((((s / 2 ^ i % 2 : Nat) : Int)) == 1) := by
 rw [hushref11_In.F_eq]
 exact in_loop i hi i 0 s (by omega) hs
theorem rsub_l1 (u d n : Nat) (hu : u ≤ d) (hn : n ≤ 10) (hd1 : 1 ≤ d) (hd : d ^ n ≤ 1073741824) (hd2 : d ≤ 1073741824) (s : Nat) (hs : s ≤ 1024) (acc : List S56) (ha : acc.length ≤ 1024) : ∀ (m i : Nat), i + m = n →
  hushref11_Subsets.L1 (n : Int) acc (s : Int) ((subW u (d - u) s i : Nat) : Int) (i : Int) (u : Int) (d : Int) = hushref11_Subsets.L0 (n : Int) (acc ++ [⟨[(s : Int)], ((subW u (d - u) s n : Nat) : Int)⟩]) ((s + 1 : Nat) : Int) (u : Int) (d : Int) := by
 intro m
 induction m with
 | zero =>
  intro i hi
  obtain rfl : i = n := by omega
  rw [hushref11_Subsets.L1_eq, if_neg (by omega), if_pos (by omega), w1 (by omega)]
 | succ m ih =>
  intro i hi
  have hw := subW_le (u := u) (e := d - u) hu (by omega) s i
  have hw1 := subW_le (u := u) (e := d - u) hu (by omega) s (i + 1)
  have hp : d ^ (i + 1) ≤ d ^ n := Nat.pow_le_pow_right hd1 (by omega)
  have q : (d : Int) - (u : Int) = ((d - u : Nat) : Int) := by omega
  have k0 : (i : Int) < (n : Int) := by omega
  have ib := inF (s := s) (i := i) (by omega) hs
  have kw : wrap64 ((i : Int) + 1) = ((i + 1 : Nat) : Int) := w1 (by omega)
  have hsucc : subW u (d - u) s (i + 1) = subW u (d - u) s i * bitW u (d - u) s i := rfl
  rw [hushref11_Subsets.L1_eq, if_pos k0, ib, Option.bind_some, kw]
  clear kw ib
  by_cases c : s / 2 ^ i % 2 = 1
  ·
   have hb : bitW u (d - u) s i = u := by unfold bitW; rw [if_pos c]
   rw [hb] at hsucc
   have ew : wrap64 (((subW u (d - u) s i : Nat) : Int) * (u : Int)) = ((subW u (d - u) s (i + 1) : Nat) : Int) := by
    rw [← Int.natCast_mul, ← hsucc, wrap64_of (by omega) (by omega)]
   rw [c, if_pos (by decide), ew]
   exact ih (i + 1) (by omega)
  ·
   have hb : bitW u (d - u) s i = d - u := by unfold bitW; rw [if_neg c]
   rw [hb] at hsucc
   have ew : wrap64 (((subW u (d - u) s i : Nat) : Int) * wrap64 ((d : Int) - (u : Int))) = ((subW u (d - u) s (i + 1) : Nat) : Int) := by
    rw [q, wrap64_of (x := ((d - u : Nat) : Int)) (by omega) (by omega), ← Int.natCast_mul, ← hsucc, wrap64_of (by omega) (by omega)]
   have c0 : s / 2 ^ i % 2 = 0 := by omega
   rw [c0, if_neg (by decide), ew]
   exact ih (i + 1) (by omega)
theorem rsub_l0 (u d n : Nat) (hu : u ≤ d) (hn : n ≤ 10) (hd1 : 1 ≤ d) (hd : d ^ n ≤ 1073741824) (hd2 : d ≤ 1073741824) (h2 : hushref6_Power.F 2 (n : Int) = some ((2 ^ n : Nat) : Int)) : ∀ (m s : Nat), s + m = 2 ^ n →
  hushref11_Subsets.L0 (n : Int) (parL u (d - u) n s) (s : Int) (u : Int) (d : Int) = some (makeP (parL u (d - u) n (2 ^ n))) := by
 have hp := pow2_le hn
 intro m
 induction m with
 | zero =>
  intro s hs
  obtain rfl : s = 2 ^ n := by omega
  rw [hushref11_Subsets.L0_eq, h2, Option.bind_some, if_neg (by omega), rmakeF1 _ (parL_bd u (d - u) n _ (by omega)), Option.bind_some]
 | succ m ih =>
  intro s hs
  rw [hushref11_Subsets.L0_eq, h2, Option.bind_some, if_pos (by omega)]
  have h := rsub_l1 u d n hu hn hd1 hd hd2 s (by omega) (parL u (d - u) n s) (by rw [parL_len]; omega) n 0 (by omega)
  refine h.trans ?_
  rw [← parL_succ]
  exact ih (s + 1) (by omega)
end Go.Proofs.Yteajcjalpofalaa.DistPure
end
section
namespace Go.Proofs.Yteajcjalpofalaa.DistPure
set_option linter.unusedVariables false
set_option linter.unusedSimpArgs false
open Go.RowKit Go.Proofs.Yteajcjalpofalaa.PA Go.Proofs.YteajcjalpofalaaW.PrintWords Go.Proofs.YteajcjalpofalaaW.PrintLast Go.Proofs.YteajcjalpofalaaW.PrintMore Go.Proofs.YteajcjalpofalaaW.EvKit
theorem sub_nil : Bd ([] : List S56) := ⟨by simp, fun p hp => by cases hp⟩
theorem subsets_both {u d : Int} (hu : I64 u) (hd : I64 d) (n : Int) : ∃ r : List S56 × Int, sample_Subsets.F u d n = some r ∧ hushref11_Subsets.F u d n = some r ∧ Bd r.1 := by
 obtain ⟨e1, e2⟩ := chance_both hu hd
 rw [sample_Subsets.F_eq, e1, Option.bind_some, hushref11_Subsets.F_eq, e2, Option.bind_some]
 by_cases c : chanceQ u d = 0
 ·
  rw [if_pos c, if_pos c]
  have bad : sample_Subsets.J0 n true u d = some ([], 5) ∧ hushref11_Subsets.J0 n true u d = some ([], 5) := ⟨by rw [sample_Subsets.J0_eq, if_pos rfl], by rw [hushref11_Subsets.J0_eq, if_pos rfl]⟩
  by_cases c1 : n < 0
  ·
   rw [if_pos c1, if_pos c1]
   exact ⟨_, bad.1, bad.2, sub_nil⟩
  by_cases c2 : n > 10
  ·
   rw [if_neg c1, if_neg c1, decide_eq_true c2]
   exact ⟨_, bad.1, bad.2, sub_nil⟩
  rw [if_neg c1, if_neg c1, decide_eq_false c2]
  obtain ⟨k, rfl⟩ := Int.eq_ofNat_of_zero_le (show 0 ≤ n by omega)
  unfold chanceQ at c
  split at c
  ·
   rename_i hr
   split at c
   ·
    cases c
   ·
    rename_i hud
    obtain ⟨r1, r2, r3, r4, r5⟩ := RatioSpec.rightS_iff.1 hr
    obtain ⟨a, rfl⟩ := Int.eq_ofNat_of_zero_le r1
    obtain ⟨b, rfl⟩ := Int.eq_ofNat_of_zero_le (show 0 ≤ d by omega)
    have hp := pow2_le (j := k) (by omega)
    have p1 := rpowF (a := b) (n := k) (by omega) (by omega) (by omega)
    have p2 := rpowF (a := 2) (n := k) (by omega) (by omega) (by omega)
    rw [capN_small (by omega)] at p2
    have h0 := sub_l0 a b k (by omega) (by omega) (by omega) (by omega) k 0 (by omega) (by rw [Nat.pow_zero]; omega)
    rw [Nat.pow_zero] at h0
    rw [sample_Subsets.J0_eq, if_neg (by decide), hushref11_Subsets.J0_eq, if_neg (by decide), p1, Option.bind_some]
    by_cases c3 : b ^ k > 1073741824
    ·
     have e3 : capN (b ^ k) = 1073741825 := by unfold capN; rw [if_pos c3]
     rw [if_pos c3] at h0
     exact ⟨([], 4), h0, by rw [e3, if_pos (by decide)], sub_nil⟩
    ·
     rw [if_neg c3] at h0
     rw [capN_small (by omega), if_neg (by omega)]
     exact ⟨_, h0, rsub_l0 a b k (by omega) (by omega) (by omega) (by omega) (by omega) p2 (2 ^ k) 0 (by omega), makeP_bd (parL_bd _ _ _ _ (by omega))⟩
  ·
   cases c
 ·
  rw [if_neg c, if_neg c]
  exact ⟨_, rfl, rfl, sub_nil⟩
end Go.Proofs.Yteajcjalpofalaa.DistPure
namespace Go.Proofs.Yteajcjalpofalaa.Pure
open Go.RowKit Go.Proofs.Yteajcjalpofalaa.PA Go.Proofs.YteajcjalpofalaaW.PrintWords Go.Proofs.YteajcjalpofalaaW.PrintLast Go.Proofs.YteajcjalpofalaaW.PrintMore Go.Proofs.YteajcjalpofalaaW.EvKit Go.Proofs.Yteajcjalpofalaa.DistPure
theorem SampleSubsets : hushlaw11_SampleSubsets.Pure := by
 intro p0 n p2 h0 h1 h2
 have hu : I64 p0.f0 := wf64 h0.1
 have hd : I64 p0.f1 := wf64 h0.2
 have hx : I64 p2.f0 := wf64 h2.1
 have hy : I64 p2.f1 := wf64 h2.2
 refine (hushlaw11_SampleSubsets.F_is p0.f0 p0.f1 n p2.f0 p2.f1).rounds ?_
 obtain ⟨r, g1, g2, g3⟩ := subsets_both hu hd n
 obtain ⟨q, l1, l2⟩ := lost_both hu hd hx hy
 rw [hushlaw11_SampleSubsets.F_eq, g1, Option.bind_some, g2, Option.bind_some, rsameF _ _ g3 g3, Option.bind_some, if_pos (by simp), bne_self_eq_false, hushlaw11_SampleSubsets.J0_eq, if_neg (by decide), l1, Option.bind_some, l2, Option.bind_some, if_pos (by simp), beq_self_eq_true]
end Go.Proofs.Yteajcjalpofalaa.Pure
end

/- The pure texts of this claim, its functions behind all rounds among them, and small steps. Conditions stand in each theorem. -/
import Derived.Test.YtkemhfhmlcljjaaPRx7
import Derived.Test.YtkemhfhmlcljjaaLim
import Derived.Test.YtkemhfhmlcljjaaPRx0
import Derived.Test.YtkemhfhmlcljjaaPRx1
import Derived.Test.YtkemhfhmlcljjaaPRx2
import Derived.Test.YtkemhfhmlcljjaaPRx3
import Derived.Test.YtkemhfhmlcljjaaPRx5
import Derived.Test.YtkemhfhmlcljjaaPRx4
import Derived.Test.YtkemhfhmlcljjaaPRx6
import Derived.Test.YtkemhfhmlcljjaaPRx10
import Derived.Test.YtkemhfhmlcljjaaPRx8
import Derived.Test.YtkemhfhmlcljjaaPRx9
import Derived.Test.YtkemhfhmlcljjaaPRx11
import Derived.Test.YtkemhfhmlcljjaaPRx12
import Derived.Test.YtkemhfhmlcljjaaPRx13
section
namespace Go.Proofs.Ytkemhfhmlcljjaa.PR
set_option maxRecDepth 100000
open Go.RowKit Go.Proofs.YtkemhfhmlcljjaaW.PrintWords Go.Proofs.YtkemhfhmlcljjaaW.PrintLast Go.Proofs.YtkemhfhmlcljjaaW.PrintMore
open Go.Proofs.YtkemhfhmlcljjaaW.EvKit
set_option linter.unusedVariables false
noncomputable def slices_IndexFunc_int_int.L0 (x0 : List Int) (x7 : Int) (x8 : Int) : Option (Int) := lim (fun k => slices_IndexFunc_int_int.l0 k x0 x7 x8)
theorem slices_IndexFunc_int_int.L0_is (x0 : List Int) (x7 : Int) (x8 : Int) : LimIs (fun k => slices_IndexFunc_int_int.l0 k x0 x7 x8) (slices_IndexFunc_int_int.L0 x0 x7 x8) := ⟨fun k => (slices_IndexFunc_int_int.mono_l k) x0 x7 x8, rfl⟩
noncomputable def slices_Equal_int_int.L0 (x0 : List Int) (x1 : List Int) (x12 : Int) (x13 : Int) : Option (Bool) := lim (fun k => slices_Equal_int_int.l0 k x0 x1 x12 x13)
theorem slices_Equal_int_int.L0_is (x0 : List Int) (x1 : List Int) (x12 : Int) (x13 : Int) : LimIs (fun k => slices_Equal_int_int.l0 k x0 x1 x12 x13) (slices_Equal_int_int.L0 x0 x1 x12 x13) := ⟨fun k => (slices_Equal_int_int.mono_l k) x0 x1 x12 x13, rfl⟩
noncomputable def slices_IndexFunc_int_int.F (l0 : List Int) (a1 : Int) : Option (Int) := lim (fun k => slices_IndexFunc_int_int.f k l0 a1)
theorem slices_IndexFunc_int_int.F_is (l0 : List Int) (a1 : Int) : LimIs (fun k => slices_IndexFunc_int_int.f k l0 a1) (slices_IndexFunc_int_int.F l0 a1) := ⟨fun k => slices_IndexFunc_int_int.mono l0 a1 k, rfl⟩
noncomputable def slices_ContainsFunc_int_int.F (l0 : List Int) (a1 : Int) : Option (Bool) := lim (fun k => slices_ContainsFunc_int_int.f k l0 a1)
theorem slices_ContainsFunc_int_int.F_is (l0 : List Int) (a1 : Int) : LimIs (fun k => slices_ContainsFunc_int_int.f k l0 a1) (slices_ContainsFunc_int_int.F l0 a1) := ⟨fun k => slices_ContainsFunc_int_int.mono l0 a1 k, rfl⟩
noncomputable def dist_small.F (l0 : List Int) : Option (Bool) := lim (fun k => dist_small.f k l0)
theorem dist_small.F_is (l0 : List Int) : LimIs (fun k => dist_small.f k l0) (dist_small.F l0) := ⟨fun k => dist_small.mono l0 k, rfl⟩
noncomputable def slices_Equal_int_int.F (l0 : List Int) (l1 : List Int) : Option (Bool) := lim (fun k => slices_Equal_int_int.f k l0 l1)
theorem slices_Equal_int_int.F_is (l0 : List Int) (l1 : List Int) : LimIs (fun k => slices_Equal_int_int.f k l0 l1) (slices_Equal_int_int.F l0 l1) := ⟨fun k => slices_Equal_int_int.mono l0 l1 k, rfl⟩
theorem slices_IndexFunc_int_int.L0_eq (x0 : List Int) (x7 : Int) (x8 : Int) : slices_IndexFunc_int_int.L0 x0 x7 x8 = if x8 < x7 then (if 0 ≤ x8 then (if x8 < (x0.length : Int) then ((dist_small_1.f (rd x0 x8)).bind fun t102 => (if t102 = true then (some x8) else (slices_IndexFunc_int_int.L0 x0 x7 (wrap64 (x8 + 1))))) else (none)) else (none)) else (some (-1)) := by
 refine LimIs.step' (slices_IndexFunc_int_int.L0_is x0 x7 x8).1 (b := fun k => if x8 < x7 then (if 0 ≤ x8 then (if x8 < (x0.length : Int) then ((dist_small_1.f (rd x0 x8)).bind fun t102 => (if t102 = true then (some x8) else (slices_IndexFunc_int_int.l0 k x0 x7 (wrap64 (x8 + 1))))) else (none)) else (none)) else (some (-1))) (fun k => by first | rfl | rw [slices_IndexFunc_int_int.l0]) ?_
 repeat' first
  | (with_reducible exact slices_IndexFunc_int_int.L0_is _ _ _)
  | (with_reducible exact LimIs.const _)
  | (with_reducible refine LimIs.ite ?_ ?_)
  | (with_reducible refine LimIs.bind ?_ (fun _ => ?_))
  | exact slices_IndexFunc_int_int.L0_is _ _ _
  | exact LimIs.const _
  | refine LimIs.ite ?_ ?_
  | refine LimIs.bind ?_ (fun _ => ?_)
theorem slices_Equal_int_int.L0_eq (x0 : List Int) (x1 : List Int) (x12 : Int) (x13 : Int) : slices_Equal_int_int.L0 x0 x1 x12 x13 = if x13 < x12 then (if 0 ≤ x13 then (if x13 < (x0.length : Int) then (if x13 < (x1.length : Int) then (if (rd x0 x13) = (rd x1 x13) then (slices_Equal_int_int.L0 x0 x1 x12 (wrap64 (x13 + 1))) else (some false)) else (none)) else (none)) else (none)) else (some true) := by
 refine LimIs.step' (slices_Equal_int_int.L0_is x0 x1 x12 x13).1 (b := fun k => if x13 < x12 then (if 0 ≤ x13 then (if x13 < (x0.length : Int) then (if x13 < (x1.length : Int) then (if (rd x0 x13) = (rd x1 x13) then (slices_Equal_int_int.l0 k x0 x1 x12 (wrap64 (x13 + 1))) else (some false)) else (none)) else (none)) else (none)) else (some true)) (fun k => by first | rfl | rw [slices_Equal_int_int.l0]) ?_
 repeat' first
  | (with_reducible exact slices_Equal_int_int.L0_is _ _ _ _)
  | (with_reducible exact LimIs.const _)
  | (with_reducible refine LimIs.ite ?_ ?_)
  | (with_reducible refine LimIs.bind ?_ (fun _ => ?_))
  | exact slices_Equal_int_int.L0_is _ _ _ _
  | exact LimIs.const _
  | refine LimIs.ite ?_ ?_
  | refine LimIs.bind ?_ (fun _ => ?_)
theorem slices_IndexFunc_int_int.F_eq (l0 : List Int) (a1 : Int) : slices_IndexFunc_int_int.F l0 a1 = slices_IndexFunc_int_int.L0 l0 (l0.length : Int) 0 := by
 refine LimIs.out (?_ : LimIs (fun k => slices_IndexFunc_int_int.l0 k l0 (l0.length : Int) 0) _)
 repeat' first
  | (with_reducible exact slices_IndexFunc_int_int.L0_is _ _ _)
  | (with_reducible exact LimIs.const _)
  | (with_reducible refine LimIs.ite ?_ ?_)
  | (with_reducible refine LimIs.bind ?_ (fun _ => ?_))
  | exact slices_IndexFunc_int_int.L0_is _ _ _
  | exact LimIs.const _
  | refine LimIs.ite ?_ ?_
  | refine LimIs.bind ?_ (fun _ => ?_)
theorem slices_ContainsFunc_int_int.F_eq (l0 : List Int) (a1 : Int) : slices_ContainsFunc_int_int.F l0 a1 = (slices_IndexFunc_int_int.F l0 a1).bind fun t103 => (some (decide (t103 ≥ 0))) := by
 refine LimIs.out (?_ : LimIs (fun k => (slices_IndexFunc_int_int.f k l0 a1).bind fun t103 => (some (decide (t103 ≥ 0)))) _)
 repeat' first
  | (with_reducible exact slices_IndexFunc_int_int.F_is _ _)
  | (with_reducible exact LimIs.const _)
  | (with_reducible refine LimIs.ite ?_ ?_)
  | (with_reducible refine LimIs.bind ?_ (fun _ => ?_))
  | exact slices_IndexFunc_int_int.F_is _ _
  | exact LimIs.const _
  | refine LimIs.ite ?_ ?_
  | refine LimIs.bind ?_ (fun _ => ?_)
theorem dist_small.F_eq (l0 : List Int) : dist_small.F l0 = if (l0.length : Int) ≤ 16 then ((slices_ContainsFunc_int_int.F l0 990000076).bind fun t104 => (some (!t104))) else (some false) := by
 refine LimIs.out (?_ : LimIs (fun k => if (l0.length : Int) ≤ 16 then ((slices_ContainsFunc_int_int.f k l0 990000076).bind fun t104 => (some (!t104))) else (some false)) _)
 repeat' first
  | (with_reducible exact slices_ContainsFunc_int_int.F_is _ _)
  | (with_reducible exact LimIs.const _)
  | (with_reducible refine LimIs.ite ?_ ?_)
  | (with_reducible refine LimIs.bind ?_ (fun _ => ?_))
  | exact slices_ContainsFunc_int_int.F_is _ _
  | exact LimIs.const _
  | refine LimIs.ite ?_ ?_
  | refine LimIs.bind ?_ (fun _ => ?_)
theorem slices_Equal_int_int.F_eq (l0 : List Int) (l1 : List Int) : slices_Equal_int_int.F l0 l1 = if (l0.length : Int) = (l1.length : Int) then (slices_Equal_int_int.L0 l0 l1 (l0.length : Int) 0) else (some false) := by
 refine LimIs.out (?_ : LimIs (fun k => if (l0.length : Int) = (l1.length : Int) then (slices_Equal_int_int.l0 k l0 l1 (l0.length : Int) 0) else (some false)) _)
 repeat' first
  | (with_reducible exact slices_Equal_int_int.L0_is _ _ _ _)
  | (with_reducible exact LimIs.const _)
  | (with_reducible refine LimIs.ite ?_ ?_)
  | (with_reducible refine LimIs.bind ?_ (fun _ => ?_))
  | exact slices_Equal_int_int.L0_is _ _ _ _
  | exact LimIs.const _
  | refine LimIs.ite ?_ ?_
  | refine LimIs.bind ?_ (fun _ => ?_)
end Go.Proofs.Ytkemhfhmlcljjaa.PR
end
section
namespace Go.Proofs.Ytkemhfhmlcljjaa.PR
set_option maxRecDepth 100000
open Go.RowKit Go.Proofs.YtkemhfhmlcljjaaW.PrintWords Go.Proofs.YtkemhfhmlcljjaaW.PrintLast Go.Proofs.YtkemhfhmlcljjaaW.PrintMore
open Go.Proofs.YtkemhfhmlcljjaaW.EvKit
set_option linter.unusedVariables false
noncomputable def dist_total.L0 (x3 : Int) (x6 : List (S32)) (x7 : Int) (x8 : Int) : Option (Int) := lim (fun k => dist_total.l0 k x3 x6 x7 x8)
theorem dist_total.L0_is (x3 : Int) (x6 : List (S32)) (x7 : Int) (x8 : Int) : LimIs (fun k => dist_total.l0 k x3 x6 x7 x8) (dist_total.L0 x3 x6 x7 x8) := ⟨fun k => (dist_total.mono_l k) x3 x6 x7 x8, rfl⟩
noncomputable def dist_gcd.L0 (x0 : Int) (x1 : Int) : Option (Int) := lim (fun k => dist_gcd.l0 k x0 x1)
theorem dist_gcd.L0_is (x0 : Int) (x1 : Int) : LimIs (fun k => dist_gcd.l0 k x0 x1) (dist_gcd.L0 x0 x1) := ⟨fun k => (dist_gcd.mono_l k) x0 x1, rfl⟩
noncomputable def dist_total.F (l0 : List (S32)) : Option (Int) := lim (fun k => dist_total.f k l0)
theorem dist_total.F_is (l0 : List (S32)) : LimIs (fun k => dist_total.f k l0) (dist_total.F l0) := ⟨fun k => dist_total.mono l0 k, rfl⟩
noncomputable def dist_gcd.F (a0 : Int) (a1 : Int) : Option (Int) := lim (fun k => dist_gcd.f k a0 a1)
theorem dist_gcd.F_is (a0 : Int) (a1 : Int) : LimIs (fun k => dist_gcd.f k a0 a1) (dist_gcd.F a0 a1) := ⟨fun k => dist_gcd.mono a0 a1 k, rfl⟩
theorem dist_total.L0_eq (x3 : Int) (x6 : List (S32)) (x7 : Int) (x8 : Int) : dist_total.L0 x3 x6 x7 x8 = if x8 < x7 then (if 0 ≤ x8 then (if x8 < (x6.length : Int) then (dist_total.L0 (wrap64 (x3 + ((rd_T32 x6 x8).f1))) x6 x7 (wrap64 (x8 + 1))) else (none)) else (none)) else (some x3) := by
 refine LimIs.step' (dist_total.L0_is x3 x6 x7 x8).1 (b := fun k => if x8 < x7 then (if 0 ≤ x8 then (if x8 < (x6.length : Int) then (dist_total.l0 k (wrap64 (x3 + ((rd_T32 x6 x8).f1))) x6 x7 (wrap64 (x8 + 1))) else (none)) else (none)) else (some x3)) (fun k => by first | rfl | rw [dist_total.l0]) ?_
 repeat' first
  | (with_reducible exact dist_total.L0_is _ _ _ _)
  | (with_reducible exact LimIs.const _)
  | (with_reducible refine LimIs.ite ?_ ?_)
  | (with_reducible refine LimIs.bind ?_ (fun _ => ?_))
  | exact dist_total.L0_is _ _ _ _
  | exact LimIs.const _
  | refine LimIs.ite ?_ ?_
  | refine LimIs.bind ?_ (fun _ => ?_)
theorem dist_gcd.L0_eq (x0 : Int) (x1 : Int) : dist_gcd.L0 x0 x1 = if x1 = 0 then (some x0) else (dist_gcd.L0 x1 (Int.tmod x0 x1)) := by
 refine LimIs.step' (dist_gcd.L0_is x0 x1).1 (b := fun k => if x1 = 0 then (some x0) else (dist_gcd.l0 k x1 (Int.tmod x0 x1))) (fun k => by first | rfl | rw [dist_gcd.l0]) ?_
 repeat' first
  | (with_reducible exact dist_gcd.L0_is _ _)
  | (with_reducible exact LimIs.const _)
  | (with_reducible refine LimIs.ite ?_ ?_)
  | (with_reducible refine LimIs.bind ?_ (fun _ => ?_))
  | exact dist_gcd.L0_is _ _
  | exact LimIs.const _
  | refine LimIs.ite ?_ ?_
  | refine LimIs.bind ?_ (fun _ => ?_)
theorem dist_total.F_eq (l0 : List (S32)) : dist_total.F l0 = dist_total.L0 0 l0 (l0.length : Int) 0 := by
 refine LimIs.out (?_ : LimIs (fun k => dist_total.l0 k 0 l0 (l0.length : Int) 0) _)
 repeat' first
  | (with_reducible exact dist_total.L0_is _ _ _ _)
  | (with_reducible exact LimIs.const _)
  | (with_reducible refine LimIs.ite ?_ ?_)
  | (with_reducible refine LimIs.bind ?_ (fun _ => ?_))
  | exact dist_total.L0_is _ _ _ _
  | exact LimIs.const _
  | refine LimIs.ite ?_ ?_
  | refine LimIs.bind ?_ (fun _ => ?_)
theorem dist_gcd.F_eq (a0 : Int) (a1 : Int) : dist_gcd.F a0 a1 = dist_gcd.L0 a0 a1 := by
 refine LimIs.out (?_ : LimIs (fun k => dist_gcd.l0 k a0 a1) _)
 repeat' first
  | (with_reducible exact dist_gcd.L0_is _ _)
  | (with_reducible exact LimIs.const _)
  | (with_reducible refine LimIs.ite ?_ ?_)
  | (with_reducible refine LimIs.bind ?_ (fun _ => ?_))
  | exact dist_gcd.L0_is _ _
  | exact LimIs.const _
  | refine LimIs.ite ?_ ?_
  | refine LimIs.bind ?_ (fun _ => ?_)
end Go.Proofs.Ytkemhfhmlcljjaa.PR
end
section
namespace Go.Proofs.Ytkemhfhmlcljjaa.PR
set_option maxRecDepth 100000
open Go.RowKit Go.Proofs.YtkemhfhmlcljjaaW.PrintWords Go.Proofs.YtkemhfhmlcljjaaW.PrintLast Go.Proofs.YtkemhfhmlcljjaaW.PrintMore
open Go.Proofs.YtkemhfhmlcljjaaW.EvKit
set_option linter.unusedVariables false
noncomputable def dist_tidy.F (l0 : List S32) : Option (List S32 × Int) := lim (fun k => dist_tidy.f k l0)
theorem dist_tidy.F_is (l0 : List S32) : LimIs (fun k => dist_tidy.f k l0) (dist_tidy.F l0) := ⟨fun k => dist_tidy.mono l0 k, rfl⟩
theorem dist_tidy.F_eq (l0 : List S32) : dist_tidy.F l0 = if tGuard l0 = true then some (tDone (tMerge (sortP l0))) else none := by
 refine LimIs.out (?_ : LimIs (fun k => if tGuard l0 = true then some (tDone (tMerge (sortP l0))) else none) _)
 repeat' first
  | (with_reducible exact LimIs.const _)
  | (with_reducible refine LimIs.ite ?_ ?_)
  | (with_reducible refine LimIs.bind ?_ (fun _ => ?_))
  | exact LimIs.const _
  | refine LimIs.ite ?_ ?_
  | refine LimIs.bind ?_ (fun _ => ?_)
end Go.Proofs.Ytkemhfhmlcljjaa.PR
end
section
namespace Go.Proofs.Ytkemhfhmlcljjaa.PR
set_option maxRecDepth 100000
open Go.RowKit Go.Proofs.YtkemhfhmlcljjaaW.PrintWords Go.Proofs.YtkemhfhmlcljjaaW.PrintLast Go.Proofs.YtkemhfhmlcljjaaW.PrintMore
open Go.Proofs.YtkemhfhmlcljjaaW.EvKit
set_option linter.unusedVariables false
noncomputable def dist_Make.L0 (x4 : List (S32)) (x7 : List (S32)) (x8 : Int) (x9 : Int) : Option ((List (S32)) × Int) := lim (fun k => dist_Make.l0 k x4 x7 x8 x9)
theorem dist_Make.L0_is (x4 : List (S32)) (x7 : List (S32)) (x8 : Int) (x9 : Int) : LimIs (fun k => dist_Make.l0 k x4 x7 x8 x9) (dist_Make.L0 x4 x7 x8 x9) := ⟨fun k => (dist_Make.mono_l k) x4 x7 x8 x9, rfl⟩
noncomputable def dist_Make.F (l0 : List (S32)) : Option ((List (S32)) × Int) := lim (fun k => dist_Make.f k l0)
theorem dist_Make.F_is (l0 : List (S32)) : LimIs (fun k => dist_Make.f k l0) (dist_Make.F l0) := ⟨fun k => dist_Make.mono l0 k, rfl⟩
noncomputable def dist_Sure.F (l0 : List Int) : Option ((List (S32)) × Int) := lim (fun k => dist_Sure.f k l0)
theorem dist_Sure.F_is (l0 : List Int) : LimIs (fun k => dist_Sure.f k l0) (dist_Sure.F l0) := ⟨fun k => dist_Sure.mono l0 k, rfl⟩
noncomputable def hushlaw2_alive.F : Option (Bool) := lim (fun k => hushlaw2_alive.f k)
theorem hushlaw2_alive.F_is : LimIs (fun k => hushlaw2_alive.f k) (hushlaw2_alive.F) := ⟨fun k => hushlaw2_alive.mono k, rfl⟩
theorem dist_Make.L0_eq (x4 : List (S32)) (x7 : List (S32)) (x8 : Int) (x9 : Int) : dist_Make.L0 x4 x7 x8 x9 = if x9 < x8 then (if 0 ≤ x9 then (if x9 < (x7.length : Int) then ((dist_small.F ((rd_T32 x7 x9).f0)).bind fun t120 => (if t120 = true then (if ((rd_T32 x7 x9).f1) < 0 then (some (([] : List (S32)), 3)) else (if ((rd_T32 x7 x9).f1) > 1073741824 then (some (([] : List (S32)), 3)) else ((slices_Clone_int_int.f ((rd_T32 x7 x9).f0)).bind fun t121 => (if x4.length < 4398046511104 then (dist_Make.L0 (x4 ++ [(⟨t121, (rd_T32 x7 x9).f1⟩ : S32)]) x7 x8 (wrap64 (x9 + 1))) else (none))))) else (some (([] : List (S32)), 3)))) else (none)) else (none)) else ((dist_tidy.F x4).bind fun bt114 => (some (bt114.1, bt114.2))) := by
 refine LimIs.step' (dist_Make.L0_is x4 x7 x8 x9).1 (b := fun k => if x9 < x8 then (if 0 ≤ x9 then (if x9 < (x7.length : Int) then ((dist_small.f k ((rd_T32 x7 x9).f0)).bind fun t120 => (if t120 = true then (if ((rd_T32 x7 x9).f1) < 0 then (some (([] : List (S32)), 3)) else (if ((rd_T32 x7 x9).f1) > 1073741824 then (some (([] : List (S32)), 3)) else ((slices_Clone_int_int.f ((rd_T32 x7 x9).f0)).bind fun t121 => (if x4.length < 4398046511104 then (dist_Make.l0 k (x4 ++ [(⟨t121, (rd_T32 x7 x9).f1⟩ : S32)]) x7 x8 (wrap64 (x9 + 1))) else (none))))) else (some (([] : List (S32)), 3)))) else (none)) else (none)) else ((dist_tidy.f k x4).bind fun bt114 => (some (bt114.1, bt114.2)))) (fun k => by first | rfl | rw [dist_Make.l0]) ?_
 repeat' first
  | (with_reducible exact dist_small.F_is _)
  | (with_reducible exact dist_Make.L0_is _ _ _ _)
  | (with_reducible exact dist_tidy.F_is _)
  | (with_reducible exact LimIs.const _)
  | (with_reducible refine LimIs.ite ?_ ?_)
  | (with_reducible refine LimIs.bind ?_ (fun _ => ?_))
  | exact dist_small.F_is _
  | exact dist_Make.L0_is _ _ _ _
  | exact dist_tidy.F_is _
  | exact LimIs.const _
  | refine LimIs.ite ?_ ?_
  | refine LimIs.bind ?_ (fun _ => ?_)
theorem dist_Make.F_eq (l0 : List (S32)) : dist_Make.F l0 = dist_Make.L0 ([] : List (S32)) l0 (l0.length : Int) 0 := by
 refine LimIs.out (?_ : LimIs (fun k => dist_Make.l0 k ([] : List (S32)) l0 (l0.length : Int) 0) _)
 repeat' first
  | (with_reducible exact dist_Make.L0_is _ _ _ _)
  | (with_reducible exact LimIs.const _)
  | (with_reducible refine LimIs.ite ?_ ?_)
  | (with_reducible refine LimIs.bind ?_ (fun _ => ?_))
  | exact dist_Make.L0_is _ _ _ _
  | exact LimIs.const _
  | refine LimIs.ite ?_ ?_
  | refine LimIs.bind ?_ (fun _ => ?_)
theorem dist_Sure.F_eq (l0 : List Int) : dist_Sure.F l0 = (dist_Make.F (([(⟨l0, 1⟩ : S32)] : List (S32)))).bind fun bt130 => (some (bt130.1, bt130.2)) := by
 refine LimIs.out (?_ : LimIs (fun k => (dist_Make.f k (([(⟨l0, 1⟩ : S32)] : List (S32)))).bind fun bt130 => (some (bt130.1, bt130.2))) _)
 repeat' first
  | (with_reducible exact dist_Make.F_is _)
  | (with_reducible exact LimIs.const _)
  | (with_reducible refine LimIs.ite ?_ ?_)
  | (with_reducible refine LimIs.bind ?_ (fun _ => ?_))
  | exact dist_Make.F_is _
  | exact LimIs.const _
  | refine LimIs.ite ?_ ?_
  | refine LimIs.bind ?_ (fun _ => ?_)
theorem hushlaw2_alive.F_eq : hushlaw2_alive.F = (dist_Sure.F (([3] : List Int))).bind fun bt137 => (if bt137.2 = 0 then (if (bt137.1.length : Int) = 1 then (if 0 < (bt137.1.length : Int) then (some (((rd_T32 bt137.1 0).f1) == 1)) else (none)) else (some false)) else (some false)) := by
 refine LimIs.out (?_ : LimIs (fun k => (dist_Sure.f k (([3] : List Int))).bind fun bt137 => (if bt137.2 = 0 then (if (bt137.1.length : Int) = 1 then (if 0 < (bt137.1.length : Int) then (some (((rd_T32 bt137.1 0).f1) == 1)) else (none)) else (some false)) else (some false))) _)
 repeat' first
  | (with_reducible exact dist_Sure.F_is _)
  | (with_reducible exact LimIs.const _)
  | (with_reducible refine LimIs.ite ?_ ?_)
  | (with_reducible refine LimIs.bind ?_ (fun _ => ?_))
  | exact dist_Sure.F_is _
  | exact LimIs.const _
  | refine LimIs.ite ?_ ?_
  | refine LimIs.bind ?_ (fun _ => ?_)
end Go.Proofs.Ytkemhfhmlcljjaa.PR
end
section
namespace Go.Proofs.Ytkemhfhmlcljjaa.PR
set_option maxRecDepth 100000
open Go.RowKit Go.Proofs.YtkemhfhmlcljjaaW.PrintWords Go.Proofs.YtkemhfhmlcljjaaW.PrintLast Go.Proofs.YtkemhfhmlcljjaaW.PrintMore
open Go.Proofs.YtkemhfhmlcljjaaW.EvKit
set_option linter.unusedVariables false
noncomputable def api_Part.L0 (x1 : List (S32)) (x15 : List (S32)) (x16 : Int) (x17 : Int) : Option (Bool) := lim (fun k => api_Part.l0 k x1 x15 x16 x17)
theorem api_Part.L0_is (x1 : List (S32)) (x15 : List (S32)) (x16 : Int) (x17 : Int) : LimIs (fun k => api_Part.l0 k x1 x15 x16 x17) (api_Part.L0 x1 x15 x16 x17) := ⟨fun k => (api_Part.mono_l k) x1 x15 x16 x17, rfl⟩
noncomputable def dist_same_1.F (l0_0 : List Int) (a0_1 : Int) (l1_0 : List Int) (a1_1 : Int) : Option (Bool) := lim (fun k => dist_same_1.f k l0_0 a0_1 l1_0 a1_1)
theorem dist_same_1.F_is (l0_0 : List Int) (a0_1 : Int) (l1_0 : List Int) (a1_1 : Int) : LimIs (fun k => dist_same_1.f k l0_0 a0_1 l1_0 a1_1) (dist_same_1.F l0_0 a0_1 l1_0 a1_1) := ⟨fun k => dist_same_1.mono l0_0 a0_1 l1_0 a1_1 k, rfl⟩
noncomputable def api_Part.F (l0 : List (S32)) (l1 : List (S32)) (a2 : Int) : Option (Bool) := lim (fun k => api_Part.f k l0 l1 a2)
theorem api_Part.F_is (l0 : List (S32)) (l1 : List (S32)) (a2 : Int) : LimIs (fun k => api_Part.f k l0 l1 a2) (api_Part.F l0 l1 a2) := ⟨fun k => api_Part.mono l0 l1 a2 k, rfl⟩
noncomputable def dist_same.F (l0 : List (S32)) (l1 : List (S32)) : Option (Bool) := lim (fun k => dist_same.f k l0 l1)
theorem dist_same.F_is (l0 : List (S32)) (l1 : List (S32)) : LimIs (fun k => dist_same.f k l0 l1) (dist_same.F l0 l1) := ⟨fun k => dist_same.mono l0 l1 k, rfl⟩
noncomputable def dist_Wrong.F (l0 : List (S32)) : Option (Int) := lim (fun k => dist_Wrong.f k l0)
theorem dist_Wrong.F_is (l0 : List (S32)) : LimIs (fun k => dist_Wrong.f k l0) (dist_Wrong.F l0) := ⟨fun k => dist_Wrong.mono l0 k, rfl⟩
theorem api_Part.L0_eq (x1 : List (S32)) (x15 : List (S32)) (x16 : Int) (x17 : Int) : api_Part.L0 x1 x15 x16 x17 = if x17 < x16 then (if 0 ≤ x17 then (if x17 < (x15.length : Int) then (if x17 < (x1.length : Int) then ((dist_same_1.F ((rd_T32 x15 x17).f0) ((rd_T32 x15 x17).f1) ((rd_T32 x1 x17).f0) ((rd_T32 x1 x17).f1)).bind fun t149 => (if t149 = true then (api_Part.L0 x1 x15 x16 (wrap64 (x17 + 1))) else (some false))) else (none)) else (none)) else (none)) else (some true) := by
 refine LimIs.step' (api_Part.L0_is x1 x15 x16 x17).1 (b := fun k => if x17 < x16 then (if 0 ≤ x17 then (if x17 < (x15.length : Int) then (if x17 < (x1.length : Int) then ((dist_same_1.f k ((rd_T32 x15 x17).f0) ((rd_T32 x15 x17).f1) ((rd_T32 x1 x17).f0) ((rd_T32 x1 x17).f1)).bind fun t149 => (if t149 = true then (api_Part.l0 k x1 x15 x16 (wrap64 (x17 + 1))) else (some false))) else (none)) else (none)) else (none)) else (some true)) (fun k => by first | rfl | rw [api_Part.l0]) ?_
 repeat' first
  | (with_reducible exact dist_same_1.F_is _ _ _ _)
  | (with_reducible exact api_Part.L0_is _ _ _ _)
  | (with_reducible exact LimIs.const _)
  | (with_reducible refine LimIs.ite ?_ ?_)
  | (with_reducible refine LimIs.bind ?_ (fun _ => ?_))
  | exact dist_same_1.F_is _ _ _ _
  | exact api_Part.L0_is _ _ _ _
  | exact LimIs.const _
  | refine LimIs.ite ?_ ?_
  | refine LimIs.bind ?_ (fun _ => ?_)
theorem dist_same_1.F_eq (l0_0 : List Int) (a0_1 : Int) (l1_0 : List Int) (a1_1 : Int) : dist_same_1.F l0_0 a0_1 l1_0 a1_1 = if a0_1 = a1_1 then ((slices_Equal_int_int.F l0_0 l1_0).bind fun t144 => (some t144)) else (some false) := by
 refine LimIs.out (?_ : LimIs (fun k => if a0_1 = a1_1 then ((slices_Equal_int_int.f k l0_0 l1_0).bind fun t144 => (some t144)) else (some false)) _)
 repeat' first
  | (with_reducible exact slices_Equal_int_int.F_is _ _)
  | (with_reducible exact LimIs.const _)
  | (with_reducible refine LimIs.ite ?_ ?_)
  | (with_reducible refine LimIs.bind ?_ (fun _ => ?_))
  | exact slices_Equal_int_int.F_is _ _
  | exact LimIs.const _
  | refine LimIs.ite ?_ ?_
  | refine LimIs.bind ?_ (fun _ => ?_)
theorem api_Part.F_eq (l0 : List (S32)) (l1 : List (S32)) (a2 : Int) : api_Part.F l0 l1 a2 = if (l0.length : Int) = (l1.length : Int) then (api_Part.L0 l1 l0 (l0.length : Int) 0) else (some false) := by
 refine LimIs.out (?_ : LimIs (fun k => if (l0.length : Int) = (l1.length : Int) then (api_Part.l0 k l1 l0 (l0.length : Int) 0) else (some false)) _)
 repeat' first
  | (with_reducible exact api_Part.L0_is _ _ _ _)
  | (with_reducible exact LimIs.const _)
  | (with_reducible refine LimIs.ite ?_ ?_)
  | (with_reducible refine LimIs.bind ?_ (fun _ => ?_))
  | exact api_Part.L0_is _ _ _ _
  | exact LimIs.const _
  | refine LimIs.ite ?_ ?_
  | refine LimIs.bind ?_ (fun _ => ?_)
theorem dist_same.F_eq (l0 : List (S32)) (l1 : List (S32)) : dist_same.F l0 l1 = (api_Part.F l0 l1 990000082).bind fun t150 => (some t150) := by
 refine LimIs.out (?_ : LimIs (fun k => (api_Part.f k l0 l1 990000082).bind fun t150 => (some t150)) _)
 repeat' first
  | (with_reducible exact api_Part.F_is _ _ _)
  | (with_reducible exact LimIs.const _)
  | (with_reducible refine LimIs.ite ?_ ?_)
  | (with_reducible refine LimIs.bind ?_ (fun _ => ?_))
  | exact api_Part.F_is _ _ _
  | exact LimIs.const _
  | refine LimIs.ite ?_ ?_
  | refine LimIs.bind ?_ (fun _ => ?_)
theorem dist_Wrong.F_eq (l0 : List (S32)) : dist_Wrong.F l0 = (dist_Make.F l0).bind fun bt151 => (if bt151.2 = 0 then ((dist_same.F l0 bt151.1).bind fun t155 => (if t155 = true then (some bt151.2) else (some (2 : Int)))) else (some bt151.2)) := by
 refine LimIs.out (?_ : LimIs (fun k => (dist_Make.f k l0).bind fun bt151 => (if bt151.2 = 0 then ((dist_same.f k l0 bt151.1).bind fun t155 => (if t155 = true then (some bt151.2) else (some (2 : Int)))) else (some bt151.2))) _)
 repeat' first
  | (with_reducible exact dist_Make.F_is _)
  | (with_reducible exact dist_same.F_is _ _)
  | (with_reducible exact LimIs.const _)
  | (with_reducible refine LimIs.ite ?_ ?_)
  | (with_reducible refine LimIs.bind ?_ (fun _ => ?_))
  | exact dist_Make.F_is _
  | exact dist_same.F_is _ _
  | exact LimIs.const _
  | refine LimIs.ite ?_ ?_
  | refine LimIs.bind ?_ (fun _ => ?_)
end Go.Proofs.Ytkemhfhmlcljjaa.PR
end
section
namespace Go.Proofs.Ytkemhfhmlcljjaa.PR
set_option maxRecDepth 100000
open Go.RowKit Go.Proofs.YtkemhfhmlcljjaaW.PrintWords Go.Proofs.YtkemhfhmlcljjaaW.PrintLast Go.Proofs.YtkemhfhmlcljjaaW.PrintMore
open Go.Proofs.YtkemhfhmlcljjaaW.EvKit
set_option linter.unusedVariables false
noncomputable def plain_Then.L0 (x1 : List Int) (x7 : List (S45)) (x8 : Int) (x9 : Int) : Option ((List (S32))) := lim (fun k => plain_Then.l0 k x1 x7 x8 x9)
theorem plain_Then.L0_is (x1 : List Int) (x7 : List (S45)) (x8 : Int) (x9 : Int) : LimIs (fun k => plain_Then.l0 k x1 x7 x8 x9) (plain_Then.L0 x1 x7 x8 x9) := ⟨fun k => (plain_Then.mono_l k) x1 x7 x8 x9, rfl⟩
noncomputable def plain_Then.F (l0 : List (S45)) (l1 : List Int) : Option ((List (S32))) := lim (fun k => plain_Then.f k l0 l1)
theorem plain_Then.F_is (l0 : List (S45)) (l1 : List Int) : LimIs (fun k => plain_Then.f k l0 l1) (plain_Then.F l0 l1) := ⟨fun k => plain_Then.mono l0 l1 k, rfl⟩
noncomputable def plain_Bind_1.F (l0 : List Int) (l1 : List (S45)) : Option ((List (S32)) × Int) := lim (fun k => plain_Bind_1.f k l0 l1)
theorem plain_Bind_1.F_is (l0 : List Int) (l1 : List (S45)) : LimIs (fun k => plain_Bind_1.f k l0 l1) (plain_Bind_1.F l0 l1) := ⟨fun k => plain_Bind_1.mono l0 l1 k, rfl⟩
theorem plain_Then.L0_eq (x1 : List Int) (x7 : List (S45)) (x8 : Int) (x9 : Int) : plain_Then.L0 x1 x7 x8 x9 = if x9 < x8 then (if 0 ≤ x9 then (if x9 < (x7.length : Int) then ((slices_Equal_int_int.F ((rd_T45 x7 x9).f0) x1).bind fun t158 => (if t158 = true then (some ((rd_T45 x7 x9).f1)) else (plain_Then.L0 x1 x7 x8 (wrap64 (x9 + 1))))) else (none)) else (none)) else (some (([(⟨x1, 1⟩ : S32)] : List (S32)))) := by
 refine LimIs.step' (plain_Then.L0_is x1 x7 x8 x9).1 (b := fun k => if x9 < x8 then (if 0 ≤ x9 then (if x9 < (x7.length : Int) then ((slices_Equal_int_int.f k ((rd_T45 x7 x9).f0) x1).bind fun t158 => (if t158 = true then (some ((rd_T45 x7 x9).f1)) else (plain_Then.l0 k x1 x7 x8 (wrap64 (x9 + 1))))) else (none)) else (none)) else (some (([(⟨x1, 1⟩ : S32)] : List (S32))))) (fun k => by first | rfl | rw [plain_Then.l0]) ?_
 repeat' first
  | (with_reducible exact slices_Equal_int_int.F_is _ _)
  | (with_reducible exact plain_Then.L0_is _ _ _ _)
  | (with_reducible exact LimIs.const _)
  | (with_reducible refine LimIs.ite ?_ ?_)
  | (with_reducible refine LimIs.bind ?_ (fun _ => ?_))
  | exact slices_Equal_int_int.F_is _ _
  | exact plain_Then.L0_is _ _ _ _
  | exact LimIs.const _
  | refine LimIs.ite ?_ ?_
  | refine LimIs.bind ?_ (fun _ => ?_)
theorem plain_Then.F_eq (l0 : List (S45)) (l1 : List Int) : plain_Then.F l0 l1 = plain_Then.L0 l1 l0 (l0.length : Int) 0 := by
 refine LimIs.out (?_ : LimIs (fun k => plain_Then.l0 k l1 l0 (l0.length : Int) 0) _)
 repeat' first
  | (with_reducible exact plain_Then.L0_is _ _ _ _)
  | (with_reducible exact LimIs.const _)
  | (with_reducible refine LimIs.ite ?_ ?_)
  | (with_reducible refine LimIs.bind ?_ (fun _ => ?_))
  | exact plain_Then.L0_is _ _ _ _
  | exact LimIs.const _
  | refine LimIs.ite ?_ ?_
  | refine LimIs.bind ?_ (fun _ => ?_)
theorem plain_Bind_1.F_eq (l0 : List Int) (l1 : List (S45)) : plain_Bind_1.F l0 l1 = (plain_Then.F l1 l0).bind fun t162 => (some (t162, (0 : Int))) := by
 refine LimIs.out (?_ : LimIs (fun k => (plain_Then.f k l1 l0).bind fun t162 => (some (t162, (0 : Int)))) _)
 repeat' first
  | (with_reducible exact plain_Then.F_is _ _)
  | (with_reducible exact LimIs.const _)
  | (with_reducible refine LimIs.ite ?_ ?_)
  | (with_reducible refine LimIs.bind ?_ (fun _ => ?_))
  | exact plain_Then.F_is _ _
  | exact LimIs.const _
  | refine LimIs.ite ?_ ?_
  | refine LimIs.bind ?_ (fun _ => ?_)
end Go.Proofs.Ytkemhfhmlcljjaa.PR
end
section
namespace Go.Proofs.Ytkemhfhmlcljjaa.PR
set_option maxRecDepth 100000
open Go.RowKit Go.Proofs.YtkemhfhmlcljjaaW.PrintWords Go.Proofs.YtkemhfhmlcljjaaW.PrintLast Go.Proofs.YtkemhfhmlcljjaaW.PrintMore
open Go.Proofs.YtkemhfhmlcljjaaW.EvKit
set_option linter.unusedVariables false
noncomputable def dist_Bind.L0 (x0 : List (S32)) (x1 : List (S45)) (x7 : List (List (S32))) (x8 : Int) (x28 : List (S32)) (x29 : Int) (x30 : Int) : Option ((List (S32)) × Int) := lim (fun k => dist_Bind.l0 k x0 x1 x7 x8 x28 x29 x30)
theorem dist_Bind.L0_is (x0 : List (S32)) (x1 : List (S45)) (x7 : List (List (S32))) (x8 : Int) (x28 : List (S32)) (x29 : Int) (x30 : Int) : LimIs (fun k => dist_Bind.l0 k x0 x1 x7 x8 x28 x29 x30) (dist_Bind.L0 x0 x1 x7 x8 x28 x29 x30) := ⟨fun k => (dist_Bind.mono_l k).1 x0 x1 x7 x8 x28 x29 x30, rfl⟩
noncomputable def dist_Bind.J1 (x0 : List (S32)) (x1 : List (S45)) (x7 : List (List (S32))) (x8 : Int) (x9 : Int) (x11 : List (S32)) (x12 : Int) (x28 : List (S32)) (x29 : Int) (x30 : Int) : Option ((List (S32)) × Int) := lim (fun k => dist_Bind.j1 k x0 x1 x7 x8 x9 x11 x12 x28 x29 x30)
theorem dist_Bind.J1_is (x0 : List (S32)) (x1 : List (S45)) (x7 : List (List (S32))) (x8 : Int) (x9 : Int) (x11 : List (S32)) (x12 : Int) (x28 : List (S32)) (x29 : Int) (x30 : Int) : LimIs (fun k => dist_Bind.j1 k x0 x1 x7 x8 x9 x11 x12 x28 x29 x30) (dist_Bind.J1 x0 x1 x7 x8 x9 x11 x12 x28 x29 x30) := ⟨fun k => (dist_Bind.mono_l k).2.1 x0 x1 x7 x8 x9 x11 x12 x28 x29 x30, rfl⟩
noncomputable def dist_Bind.L1 (x7 : List (List (S32))) (x8 : Int) (x14 : List (S32)) (x71 : List (S32)) (x72 : Int) (x73 : Int) : Option ((List (S32)) × Int) := lim (fun k => dist_Bind.l1 k x7 x8 x14 x71 x72 x73)
theorem dist_Bind.L1_is (x7 : List (List (S32))) (x8 : Int) (x14 : List (S32)) (x71 : List (S32)) (x72 : Int) (x73 : Int) : LimIs (fun k => dist_Bind.l1 k x7 x8 x14 x71 x72 x73) (dist_Bind.L1 x7 x8 x14 x71 x72 x73) := ⟨fun k => (dist_Bind.mono_l k).2.2.1 x7 x8 x14 x71 x72 x73, rfl⟩
noncomputable def dist_Bind.L2 (x7 : List (List (S32))) (x8 : Int) (x14 : List (S32)) (x17 : Int) (x71 : List (S32)) (x72 : Int) (x73 : Int) (x88 : List (S32)) (x89 : Int) (x90 : Int) (x189000 : List Int) (x189001 : Int) : Option ((List (S32)) × Int) := lim (fun k => dist_Bind.l2 k x7 x8 x14 x17 x71 x72 x73 x88 x89 x90 x189000 x189001)
theorem dist_Bind.L2_is (x7 : List (List (S32))) (x8 : Int) (x14 : List (S32)) (x17 : Int) (x71 : List (S32)) (x72 : Int) (x73 : Int) (x88 : List (S32)) (x89 : Int) (x90 : Int) (x189000 : List Int) (x189001 : Int) : LimIs (fun k => dist_Bind.l2 k x7 x8 x14 x17 x71 x72 x73 x88 x89 x90 x189000 x189001) (dist_Bind.L2 x7 x8 x14 x17 x71 x72 x73 x88 x89 x90 x189000 x189001) := ⟨fun k => (dist_Bind.mono_l k).2.2.2 x7 x8 x14 x17 x71 x72 x73 x88 x89 x90 x189000 x189001, rfl⟩
noncomputable def dist_Bind.F (l0 : List (S32)) (l1 : List (S45)) : Option ((List (S32)) × Int) := lim (fun k => dist_Bind.f k l0 l1)
theorem dist_Bind.F_is (l0 : List (S32)) (l1 : List (S45)) : LimIs (fun k => dist_Bind.f k l0 l1) (dist_Bind.F l0 l1) := ⟨fun k => dist_Bind.mono l0 l1 k, rfl⟩
theorem dist_Bind.L0_eq (x0 : List (S32)) (x1 : List (S45)) (x7 : List (List (S32))) (x8 : Int) (x28 : List (S32)) (x29 : Int) (x30 : Int) : dist_Bind.L0 x0 x1 x7 x8 x28 x29 x30 = if x30 < x29 then (if 0 ≤ x30 then (if x30 < (x28.length : Int) then ((slices_Clone_int_int.f ((rd_T32 x28 x30).f0)).bind fun t171 => ((plain_Bind_1.F t171 x1).bind fun bt174 => (if bt174.2 = 0 then ((dist_Wrong.F bt174.1).bind fun t178 => (dist_Bind.J1 x0 x1 x7 x8 x30 bt174.1 t178 x28 x29 x30)) else (dist_Bind.J1 x0 x1 x7 x8 x30 bt174.1 bt174.2 x28 x29 x30)))) else (none)) else (none)) else ((dist_total.F x0).bind fun t182 => (if (wrap64 (x8 * t182)) > 1073741824 then (some (([] : List (S32)), 4)) else (dist_Bind.L1 x7 x8 ([] : List (S32)) x0 (x0.length : Int) 0))) := by
 refine LimIs.step' (dist_Bind.L0_is x0 x1 x7 x8 x28 x29 x30).1 (b := fun k => if x30 < x29 then (if 0 ≤ x30 then (if x30 < (x28.length : Int) then ((slices_Clone_int_int.f ((rd_T32 x28 x30).f0)).bind fun t171 => ((plain_Bind_1.f k t171 x1).bind fun bt174 => (if bt174.2 = 0 then ((dist_Wrong.f k bt174.1).bind fun t178 => (dist_Bind.j1 k x0 x1 x7 x8 x30 bt174.1 t178 x28 x29 x30)) else (dist_Bind.j1 k x0 x1 x7 x8 x30 bt174.1 bt174.2 x28 x29 x30)))) else (none)) else (none)) else ((dist_total.f k x0).bind fun t182 => (if (wrap64 (x8 * t182)) > 1073741824 then (some (([] : List (S32)), 4)) else (dist_Bind.l1 k x7 x8 ([] : List (S32)) x0 (x0.length : Int) 0)))) (fun k => by first | rfl | rw [dist_Bind.l0]) ?_
 repeat' first
  | (with_reducible exact plain_Bind_1.F_is _ _)
  | (with_reducible exact dist_Wrong.F_is _)
  | (with_reducible exact dist_Bind.J1_is _ _ _ _ _ _ _ _ _ _)
  | (with_reducible exact dist_total.F_is _)
  | (with_reducible exact dist_Bind.L1_is _ _ _ _ _ _)
  | (with_reducible exact LimIs.const _)
  | (with_reducible refine LimIs.ite ?_ ?_)
  | (with_reducible refine LimIs.bind ?_ (fun _ => ?_))
  | exact plain_Bind_1.F_is _ _
  | exact dist_Wrong.F_is _
  | exact dist_Bind.J1_is _ _ _ _ _ _ _ _ _ _
  | exact dist_total.F_is _
  | exact dist_Bind.L1_is _ _ _ _ _ _
  | exact LimIs.const _
  | refine LimIs.ite ?_ ?_
  | refine LimIs.bind ?_ (fun _ => ?_)
theorem dist_Bind.J1_eq (x0 : List (S32)) (x1 : List (S45)) (x7 : List (List (S32))) (x8 : Int) (x9 : Int) (x11 : List (S32)) (x12 : Int) (x28 : List (S32)) (x29 : Int) (x30 : Int) : dist_Bind.J1 x0 x1 x7 x8 x9 x11 x12 x28 x29 x30 = if x12 = 0 then (if 0 ≤ x9 then (if x9 < (x7.length : Int) then ((dist_total.F x11).bind fun t180 => ((dist_gcd.F x8 t180).bind fun t181 => (if t181 = 0 then (none) else (if (wrap64 ((wrap64 (Int.tdiv x8 t181)) * t180)) > 1073741824 then (some (([] : List (S32)), 4)) else (dist_Bind.L0 x0 x1 (x7.set (x9 : Int).toNat x11) (wrap64 ((wrap64 (Int.tdiv x8 t181)) * t180)) x28 x29 (wrap64 (x30 + 1))))))) else (none)) else (none)) else (some (([] : List (S32)), x12)) := by
 refine LimIs.step' (dist_Bind.J1_is x0 x1 x7 x8 x9 x11 x12 x28 x29 x30).1 (b := fun k => if x12 = 0 then (if 0 ≤ x9 then (if x9 < (x7.length : Int) then ((dist_total.f k x11).bind fun t180 => ((dist_gcd.f k x8 t180).bind fun t181 => (if t181 = 0 then (none) else (if (wrap64 ((wrap64 (Int.tdiv x8 t181)) * t180)) > 1073741824 then (some (([] : List (S32)), 4)) else (dist_Bind.l0 k x0 x1 (x7.set (x9 : Int).toNat x11) (wrap64 ((wrap64 (Int.tdiv x8 t181)) * t180)) x28 x29 (wrap64 (x30 + 1))))))) else (none)) else (none)) else (some (([] : List (S32)), x12))) (fun k => by first | rfl | rw [dist_Bind.j1]) ?_
 repeat' first
  | (with_reducible exact dist_total.F_is _)
  | (with_reducible exact dist_gcd.F_is _ _)
  | (with_reducible exact dist_Bind.L0_is _ _ _ _ _ _ _)
  | (with_reducible exact LimIs.const _)
  | (with_reducible refine LimIs.ite ?_ ?_)
  | (with_reducible refine LimIs.bind ?_ (fun _ => ?_))
  | exact dist_total.F_is _
  | exact dist_gcd.F_is _ _
  | exact dist_Bind.L0_is _ _ _ _ _ _ _
  | exact LimIs.const _
  | refine LimIs.ite ?_ ?_
  | refine LimIs.bind ?_ (fun _ => ?_)
theorem dist_Bind.L1_eq (x7 : List (List (S32))) (x8 : Int) (x14 : List (S32)) (x71 : List (S32)) (x72 : Int) (x73 : Int) : dist_Bind.L1 x7 x8 x14 x71 x72 x73 = if x73 < x72 then (if 0 ≤ x73 then (if x73 < (x71.length : Int) then (if x73 < (x7.length : Int) then ((dist_total.F (rd_L3 x7 x73)).bind fun t190 => (if t190 = 0 then (none) else (dist_Bind.L2 x7 x8 x14 (wrap64 (Int.tdiv x8 t190)) x71 x72 x73 (rd_L3 x7 x73) ((rd_L3 x7 x73).length : Int) 0 ((rd_T32 x71 x73).f0) ((rd_T32 x71 x73).f1)))) else (none)) else (none)) else (none)) else ((dist_tidy.F x14).bind fun bt183 => (some (bt183.1, bt183.2))) := by
 refine LimIs.step' (dist_Bind.L1_is x7 x8 x14 x71 x72 x73).1 (b := fun k => if x73 < x72 then (if 0 ≤ x73 then (if x73 < (x71.length : Int) then (if x73 < (x7.length : Int) then ((dist_total.f k (rd_L3 x7 x73)).bind fun t190 => (if t190 = 0 then (none) else (dist_Bind.l2 k x7 x8 x14 (wrap64 (Int.tdiv x8 t190)) x71 x72 x73 (rd_L3 x7 x73) ((rd_L3 x7 x73).length : Int) 0 ((rd_T32 x71 x73).f0) ((rd_T32 x71 x73).f1)))) else (none)) else (none)) else (none)) else ((dist_tidy.f k x14).bind fun bt183 => (some (bt183.1, bt183.2)))) (fun k => by first | rfl | rw [dist_Bind.l1]) ?_
 repeat' first
  | (with_reducible exact dist_total.F_is _)
  | (with_reducible exact dist_Bind.L2_is _ _ _ _ _ _ _ _ _ _ _ _)
  | (with_reducible exact dist_tidy.F_is _)
  | (with_reducible exact LimIs.const _)
  | (with_reducible refine LimIs.ite ?_ ?_)
  | (with_reducible refine LimIs.bind ?_ (fun _ => ?_))
  | exact dist_total.F_is _
  | exact dist_Bind.L2_is _ _ _ _ _ _ _ _ _ _ _ _
  | exact dist_tidy.F_is _
  | exact LimIs.const _
  | refine LimIs.ite ?_ ?_
  | refine LimIs.bind ?_ (fun _ => ?_)
theorem dist_Bind.L2_eq (x7 : List (List (S32))) (x8 : Int) (x14 : List (S32)) (x17 : Int) (x71 : List (S32)) (x72 : Int) (x73 : Int) (x88 : List (S32)) (x89 : Int) (x90 : Int) (x189000 : List Int) (x189001 : Int) : dist_Bind.L2 x7 x8 x14 x17 x71 x72 x73 x88 x89 x90 x189000 x189001 = if x90 < x89 then (if 0 ≤ x90 then (if x90 < (x88.length : Int) then ((slices_Clone_int_int.f ((rd_T32 x88 x90).f0)).bind fun t194 => (if x14.length < 4398046511104 then (dist_Bind.L2 x7 x8 (x14 ++ [(⟨t194, wrap64 ((wrap64 (x189001 * x17)) * ((rd_T32 x88 x90).f1))⟩ : S32)]) x17 x71 x72 x73 x88 x89 (wrap64 (x90 + 1)) x189000 x189001) else (none))) else (none)) else (none)) else (dist_Bind.L1 x7 x8 x14 x71 x72 (wrap64 (x73 + 1))) := by
 refine LimIs.step' (dist_Bind.L2_is x7 x8 x14 x17 x71 x72 x73 x88 x89 x90 x189000 x189001).1 (b := fun k => if x90 < x89 then (if 0 ≤ x90 then (if x90 < (x88.length : Int) then ((slices_Clone_int_int.f ((rd_T32 x88 x90).f0)).bind fun t194 => (if x14.length < 4398046511104 then (dist_Bind.l2 k x7 x8 (x14 ++ [(⟨t194, wrap64 ((wrap64 (x189001 * x17)) * ((rd_T32 x88 x90).f1))⟩ : S32)]) x17 x71 x72 x73 x88 x89 (wrap64 (x90 + 1)) x189000 x189001) else (none))) else (none)) else (none)) else (dist_Bind.l1 k x7 x8 x14 x71 x72 (wrap64 (x73 + 1)))) (fun k => by first | rfl | rw [dist_Bind.l2]) ?_
 repeat' first
  | (with_reducible exact dist_Bind.L2_is _ _ _ _ _ _ _ _ _ _ _ _)
  | (with_reducible exact dist_Bind.L1_is _ _ _ _ _ _)
  | (with_reducible exact LimIs.const _)
  | (with_reducible refine LimIs.ite ?_ ?_)
  | (with_reducible refine LimIs.bind ?_ (fun _ => ?_))
  | exact dist_Bind.L2_is _ _ _ _ _ _ _ _ _ _ _ _
  | exact dist_Bind.L1_is _ _ _ _ _ _
  | exact LimIs.const _
  | refine LimIs.ite ?_ ?_
  | refine LimIs.bind ?_ (fun _ => ?_)
theorem dist_Bind.F_eq (l0 : List (S32)) (l1 : List (S45)) : dist_Bind.F l0 l1 = (dist_Wrong.F l0).bind fun t165 => (if t165 = 0 then (if 0 ≤ (l0.length : Int) then (if ((l0.length : Int) : Int).toNat ≤ 11728124029610 then (dist_Bind.L0 l0 l1 (List.replicate ((l0.length : Int) : Int).toNat []) 1 l0 (l0.length : Int) 0) else (none)) else (none)) else (some (([] : List (S32)), t165))) := by
 refine LimIs.out (?_ : LimIs (fun k => (dist_Wrong.f k l0).bind fun t165 => (if t165 = 0 then (if 0 ≤ (l0.length : Int) then (if ((l0.length : Int) : Int).toNat ≤ 11728124029610 then (dist_Bind.l0 k l0 l1 (List.replicate ((l0.length : Int) : Int).toNat []) 1 l0 (l0.length : Int) 0) else (none)) else (none)) else (some (([] : List (S32)), t165)))) _)
 repeat' first
  | (with_reducible exact dist_Wrong.F_is _)
  | (with_reducible exact dist_Bind.L0_is _ _ _ _ _ _ _)
  | (with_reducible exact LimIs.const _)
  | (with_reducible refine LimIs.ite ?_ ?_)
  | (with_reducible refine LimIs.bind ?_ (fun _ => ?_))
  | exact dist_Wrong.F_is _
  | exact dist_Bind.L0_is _ _ _ _ _ _ _
  | exact LimIs.const _
  | refine LimIs.ite ?_ ?_
  | refine LimIs.bind ?_ (fun _ => ?_)
end Go.Proofs.Ytkemhfhmlcljjaa.PR
end
section
namespace Go.Proofs.Ytkemhfhmlcljjaa.PR
set_option maxRecDepth 100000
open Go.RowKit Go.Proofs.YtkemhfhmlcljjaaW.PrintWords Go.Proofs.YtkemhfhmlcljjaaW.PrintLast Go.Proofs.YtkemhfhmlcljjaaW.PrintMore
open Go.Proofs.YtkemhfhmlcljjaaW.EvKit
set_option linter.unusedVariables false
noncomputable def hushref1_Divisor.J1 (x0 : Int) (x1 : Int) (x5 : Int) : Option (Int) := lim (fun k => hushref1_Divisor.j1 k x0 x1 x5)
theorem hushref1_Divisor.J1_is (x0 : Int) (x1 : Int) (x5 : Int) : LimIs (fun k => hushref1_Divisor.j1 k x0 x1 x5) (hushref1_Divisor.J1 x0 x1 x5) := ⟨fun k => (hushref1_Divisor.mono_l k).1 x0 x1 x5, rfl⟩
noncomputable def hushref1_Divisor.L1 (x0 : Int) (x1 : Int) (x5 : Int) : Option (Int) := lim (fun k => hushref1_Divisor.l1 k x0 x1 x5)
theorem hushref1_Divisor.L1_is (x0 : Int) (x1 : Int) (x5 : Int) : LimIs (fun k => hushref1_Divisor.l1 k x0 x1 x5) (hushref1_Divisor.L1 x0 x1 x5) := ⟨fun k => (hushref1_Divisor.mono_l k).2.1 x0 x1 x5, rfl⟩
noncomputable def hushref1_Divisor.L2 (x0 : Int) (x5 : Int) : Option (Int) := lim (fun k => hushref1_Divisor.l2 k x0 x5)
theorem hushref1_Divisor.L2_is (x0 : Int) (x5 : Int) : LimIs (fun k => hushref1_Divisor.l2 k x0 x5) (hushref1_Divisor.L2 x0 x5) := ⟨fun k => (hushref1_Divisor.mono_l k).2.2.1 x0 x5, rfl⟩
noncomputable def hushref1_Divisor.L0 (x0 : Int) (x1 : Int) (x5 : Int) : Option (Int) := lim (fun k => hushref1_Divisor.l0 k x0 x1 x5)
theorem hushref1_Divisor.L0_is (x0 : Int) (x1 : Int) (x5 : Int) : LimIs (fun k => hushref1_Divisor.l0 k x0 x1 x5) (hushref1_Divisor.L0 x0 x1 x5) := ⟨fun k => (hushref1_Divisor.mono_l k).2.2.2 x0 x1 x5, rfl⟩
noncomputable def hushref1_Divisor.F (a0 : Int) (a1 : Int) : Option (Int) := lim (fun k => hushref1_Divisor.f k a0 a1)
theorem hushref1_Divisor.F_is (a0 : Int) (a1 : Int) : LimIs (fun k => hushref1_Divisor.f k a0 a1) (hushref1_Divisor.F a0 a1) := ⟨fun k => hushref1_Divisor.mono a0 a1 k, rfl⟩
theorem hushref1_Divisor.J1_eq (x0 : Int) (x1 : Int) (x5 : Int) : hushref1_Divisor.J1 x0 x1 x5 = hushref1_Divisor.L1 x0 x1 x5 := by
 refine LimIs.step' (hushref1_Divisor.J1_is x0 x1 x5).1 (b := fun k => hushref1_Divisor.l1 k x0 x1 x5) (fun k => by first | rfl | rw [hushref1_Divisor.j1]) ?_
 repeat' first
  | (with_reducible exact hushref1_Divisor.L1_is _ _ _)
  | (with_reducible exact LimIs.const _)
  | (with_reducible refine LimIs.ite ?_ ?_)
  | (with_reducible refine LimIs.bind ?_ (fun _ => ?_))
  | exact hushref1_Divisor.L1_is _ _ _
  | exact LimIs.const _
  | refine LimIs.ite ?_ ?_
  | refine LimIs.bind ?_ (fun _ => ?_)
theorem hushref1_Divisor.L1_eq (x0 : Int) (x1 : Int) (x5 : Int) : hushref1_Divisor.L1 x0 x1 x5 = if x0 = x1 then (hushref1_Divisor.L2 x0 x5) else (if (Int.tmod x0 2) = 0 then (hushref1_Divisor.L1 (wrap64 (Int.tdiv x0 2)) x1 x5) else (if (Int.tmod x1 2) = 0 then (hushref1_Divisor.L1 x0 (wrap64 (Int.tdiv x1 2)) x5) else (if x0 > x1 then (hushref1_Divisor.L1 (wrap64 (x0 - x1)) x1 x5) else (hushref1_Divisor.L1 x0 (wrap64 (x1 - x0)) x5)))) := by
 refine LimIs.step' (hushref1_Divisor.L1_is x0 x1 x5).1 (b := fun k => if x0 = x1 then (hushref1_Divisor.l2 k x0 x5) else (if (Int.tmod x0 2) = 0 then (hushref1_Divisor.l1 k (wrap64 (Int.tdiv x0 2)) x1 x5) else (if (Int.tmod x1 2) = 0 then (hushref1_Divisor.l1 k x0 (wrap64 (Int.tdiv x1 2)) x5) else (if x0 > x1 then (hushref1_Divisor.l1 k (wrap64 (x0 - x1)) x1 x5) else (hushref1_Divisor.l1 k x0 (wrap64 (x1 - x0)) x5))))) (fun k => by first | rfl | rw [hushref1_Divisor.l1]) ?_
 repeat' first
  | (with_reducible exact hushref1_Divisor.L2_is _ _)
  | (with_reducible exact hushref1_Divisor.L1_is _ _ _)
  | (with_reducible exact LimIs.const _)
  | (with_reducible refine LimIs.ite ?_ ?_)
  | (with_reducible refine LimIs.bind ?_ (fun _ => ?_))
  | exact hushref1_Divisor.L2_is _ _
  | exact hushref1_Divisor.L1_is _ _ _
  | exact LimIs.const _
  | refine LimIs.ite ?_ ?_
  | refine LimIs.bind ?_ (fun _ => ?_)
theorem hushref1_Divisor.L2_eq (x0 : Int) (x5 : Int) : hushref1_Divisor.L2 x0 x5 = if x5 > 0 then (hushref1_Divisor.L2 (wrap64 (2 * x0)) (wrap64 (x5 - 1))) else (some x0) := by
 refine LimIs.step' (hushref1_Divisor.L2_is x0 x5).1 (b := fun k => if x5 > 0 then (hushref1_Divisor.l2 k (wrap64 (2 * x0)) (wrap64 (x5 - 1))) else (some x0)) (fun k => by first | rfl | rw [hushref1_Divisor.l2]) ?_
 repeat' first
  | (with_reducible exact hushref1_Divisor.L2_is _ _)
  | (with_reducible exact LimIs.const _)
  | (with_reducible refine LimIs.ite ?_ ?_)
  | (with_reducible refine LimIs.bind ?_ (fun _ => ?_))
  | exact hushref1_Divisor.L2_is _ _
  | exact LimIs.const _
  | refine LimIs.ite ?_ ?_
  | refine LimIs.bind ?_ (fun _ => ?_)
theorem hushref1_Divisor.L0_eq (x0 : Int) (x1 : Int) (x5 : Int) : hushref1_Divisor.L0 x0 x1 x5 = if (Int.tmod x0 2) = 0 then (if (Int.tmod x1 2) = 0 then (hushref1_Divisor.L0 (wrap64 (Int.tdiv x0 2)) (wrap64 (Int.tdiv x1 2)) (wrap64 (x5 + 1))) else (hushref1_Divisor.J1 x0 x1 x5)) else (hushref1_Divisor.J1 x0 x1 x5) := by
 refine LimIs.step' (hushref1_Divisor.L0_is x0 x1 x5).1 (b := fun k => if (Int.tmod x0 2) = 0 then (if (Int.tmod x1 2) = 0 then (hushref1_Divisor.l0 k (wrap64 (Int.tdiv x0 2)) (wrap64 (Int.tdiv x1 2)) (wrap64 (x5 + 1))) else (hushref1_Divisor.j1 k x0 x1 x5)) else (hushref1_Divisor.j1 k x0 x1 x5)) (fun k => by first | rfl | rw [hushref1_Divisor.l0]) ?_
 repeat' first
  | (with_reducible exact hushref1_Divisor.L0_is _ _ _)
  | (with_reducible exact hushref1_Divisor.J1_is _ _ _)
  | (with_reducible exact LimIs.const _)
  | (with_reducible refine LimIs.ite ?_ ?_)
  | (with_reducible refine LimIs.bind ?_ (fun _ => ?_))
  | exact hushref1_Divisor.L0_is _ _ _
  | exact hushref1_Divisor.J1_is _ _ _
  | exact LimIs.const _
  | refine LimIs.ite ?_ ?_
  | refine LimIs.bind ?_ (fun _ => ?_)
theorem hushref1_Divisor.F_eq (a0 : Int) (a1 : Int) : hushref1_Divisor.F a0 a1 = if a0 = 0 then (some a1) else (hushref1_Divisor.L0 a0 a1 0) := by
 refine LimIs.out (?_ : LimIs (fun k => if a0 = 0 then (some a1) else (hushref1_Divisor.l0 k a0 a1 0)) _)
 repeat' first
  | (with_reducible exact hushref1_Divisor.L0_is _ _ _)
  | (with_reducible exact LimIs.const _)
  | (with_reducible refine LimIs.ite ?_ ?_)
  | (with_reducible refine LimIs.bind ?_ (fun _ => ?_))
  | exact hushref1_Divisor.L0_is _ _ _
  | exact LimIs.const _
  | refine LimIs.ite ?_ ?_
  | refine LimIs.bind ?_ (fun _ => ?_)
end Go.Proofs.Ytkemhfhmlcljjaa.PR
end
section
namespace Go.Proofs.Ytkemhfhmlcljjaa.DistPure
set_option linter.unusedVariables false
set_option linter.unusedSimpArgs false
open Go.RowKit Go.Proofs.Ytkemhfhmlcljjaa.PR Go.Proofs.YtkemhfhmlcljjaaW.PrintWords Go.Proofs.YtkemhfhmlcljjaaW.PrintLast Go.Proofs.YtkemhfhmlcljjaaW.PrintMore Go.Proofs.YtkemhfhmlcljjaaW.EvKit
theorem rdAt {xs : List Int} {i : Nat} (h : i < xs.length) : rd xs (i : Int) = xs[i] := by
 rw [rd_nat, List.getD_eq_getElem?_getD, List.getElem?_eq_getElem h]; rfl
theorem rd32At {xs : List S32} {i : Nat} (h : i < xs.length) : rd_T32 xs (i : Int) = xs[i] := by
 unfold rd_T32
 rw [Int.toNat_natCast, List.getD_eq_getElem?_getD, List.getElem?_eq_getElem h]; rfl
theorem w1 {i : Nat} (h : i < 4611686018427387904) : wrap64 ((i : Int) + 1) = ((i + 1 : Nat) : Int) := by rw [wrap64_of (by omega) (by omega)]; rfl
theorem eqF (x y : List Int) (hx : x.length ≤ 1048576) : slices_Equal_int_int.F x y = some (decide (x = y)) :=
 ((slices_Equal_int_int.F_is x y).iff _).2 (eq_is x y (by omega))
def okN (n : Int) : Bool := decide (-1073741824 ≤ n) && decide (n ≤ 1073741824)
def smallB (o : List Int) : Bool := decide (o.length ≤ 16) && o.all okN
theorem small1 (n : Int) : dist_small_1.f n = some (!okN n) := by
 unfold dist_small_1.f okN
 by_cases h : n < -1073741824
 ·
  rw [if_pos h]; congr 1; symm; simp; omega
 ·
  rw [if_neg h]; congr 1; rw [Bool.eq_iff_iff]; simp; omega
theorem index_loop (x : List Int) (hx : x.length ≤ 1048576) : ∀ (n i : Nat), i + n = x.length →
  ∃ r, slices_IndexFunc_int_int.L0 x (x.length : Int) (i : Int) = some r ∧ decide (r ≥ 0) = !((x.drop i).all okN) := by
 intro n
 induction n with
 | zero =>
  intro i hi
  refine ⟨-1, ?_, ?_⟩
  ·
   rw [slices_IndexFunc_int_int.L0_eq, if_neg (by omega)]
  ·
   rw [List.drop_of_length_le (show x.length ≤ i by omega)]; rfl
 | succ n ih =>
  intro i hi
  have hxi : i < x.length := by omega
  rw [slices_IndexFunc_int_int.L0_eq, if_pos (by omega), if_pos (by omega), if_pos (by omega), rdAt hxi, small1, Option.bind_some, List.drop_eq_getElem_cons hxi, List.all_cons]
  cases h : okN x[i] with
  | false => exact ⟨i, if_pos rfl, by simp⟩
  | true =>
   obtain ⟨r, h1, h2⟩ := ih (i + 1) (by omega)
   refine ⟨r, ?_, by rw [h2]; rfl⟩
   rw [if_neg (by decide), w1 (by omega)]
   exact h1
theorem smallF (o : List Int) (h : o.length ≤ 1048576) : dist_small.F o = some (smallB o) := by
 rw [dist_small.F_eq]
 unfold smallB
 by_cases c : o.length ≤ 16
 ·
  obtain ⟨r, h1, h2⟩ := index_loop o h o.length 0 (by omega)
  rw [if_pos (by omega), slices_ContainsFunc_int_int.F_eq, slices_IndexFunc_int_int.F_eq]
  rw [show (0 : Int) = ((0 : Nat) : Int) from rfl, h1]
  rw [Option.bind_some, Option.bind_some]
  have h2 : decide (r ≥ ((0 : Nat) : Int)) = !((o.drop 0).all okN) := h2
  rw [h2, List.drop_zero, decide_eq_true c]
  simp
 ·
  rw [if_neg (by omega), decide_eq_false c]; rfl
theorem totOf_cons (p : S32) (l : List S32) : totOf (p :: l) = p.f1 + totOf l := rfl
theorem totOf_nil : totOf [] = 0 := rfl
theorem tot_ge : ∀ {l : List S32}, (∀ p ∈ l, 0 ≤ p.f1) → 0 ≤ totOf l
 | [], _ => Int.le_refl _
 | p :: l, h => by
  have := tot_ge (l := l) (fun q hq => h q (by simp [hq]))
  have := h p (by simp)
  rw [totOf_cons]; omega
theorem wOf_le : ∀ {l : List S32}, (∀ p ∈ l, 0 ≤ p.f1) → ∀ o, 0 ≤ wOf l o ∧ wOf l o ≤ totOf l
 | [], _, _ => ⟨Int.le_refl _, Int.le_refl _⟩
 | p :: l, h, o => by
  have := wOf_le (l := l) (fun q hq => h q (by simp [hq])) o
  have := h p (by simp)
  rw [totOf_cons, wOf_cons]
  split <;> omega
theorem tot_bd : ∀ {l : List S32}, (∀ p ∈ l, 0 ≤ p.f1 ∧ p.f1 ≤ 1073741824) → totOf l ≤ 1073741824 * (l.length : Int)
 | [], _ => Int.le_refl _
 | p :: l, h => by
  have := tot_bd (l := l) (fun q hq => h q (by simp [hq]))
  have := h p (by simp)
  rw [totOf_cons, List.length_cons]; omega
theorem totF (l : List S32) (hl : l.length ≤ 1048576) (h0 : ∀ p ∈ l, 0 ≤ p.f1) (ht : totOf l ≤ 4611686018427387904) : dist_total.F l = some (totOf l) :=
 ((dist_total.F_is l).iff _).2 (total_is l (by omega) h0 ht)
theorem mem_at {l : List S32} {i : Nat} (h : i < l.length) : l[i] ∈ l := List.getElem_mem h
end Go.Proofs.Ytkemhfhmlcljjaa.DistPure
end
section
namespace Go.Proofs.Ytkemhfhmlcljjaa.DistPure
set_option linter.unusedVariables false
set_option linter.unusedSimpArgs false
open Go.RowKit Go.Proofs.Ytkemhfhmlcljjaa.PR Go.Proofs.YtkemhfhmlcljjaaW.PrintWords Go.Proofs.YtkemhfhmlcljjaaW.PrintLast Go.Proofs.YtkemhfhmlcljjaaW.PrintMore Go.Proofs.YtkemhfhmlcljjaaW.EvKit
theorem gcd_pos {u d : Int} (h : 1 ≤ d) : 0 < Int.gcd u d := by
 rcases Nat.eq_zero_or_pos (Int.gcd u d) with h0 | h0
 ·
  have := (Int.gcd_eq_zero_iff.1 h0).2
  omega
 ·
  exact h0
theorem quot {u : Int} {g : Nat} (hu : 0 ≤ u) (hu2 : u ≤ 9223372036854775807) : wrap64 (Int.tdiv u (g : Int)) = u / (g : Int) := by
 rw [Int.tdiv_eq_ediv_of_nonneg hu]
 have h0 : 0 ≤ u / (g : Int) := Int.ediv_nonneg hu (by omega)
 have h1 : u / (g : Int) ≤ u := Int.ediv_le_self _ hu
 exact wrap64_of (by omega) (by omega)
theorem tm2 (x : Nat) : Int.tmod (x : Int) 2 = ((x % 2 : Nat) : Int) := by rw [Int.tmod_eq_emod_of_nonneg (by omega)]; rfl
theorem td2 (x : Nat) (h : x ≤ 9223372036854775807) : wrap64 (Int.tdiv (x : Int) 2) = ((x / 2 : Nat) : Int) := by
 rw [Int.tdiv_eq_ediv_of_nonneg (by omega), wrap64_of (by omega) (by omega)]; rfl
theorem div_l2 : ∀ (t a : Nat), t ≤ 4611686018427387904 → a * 2 ^ t ≤ 9223372036854775807 → Ev (fun k => hushref1_Divisor.l2 k (a : Int) (t : Int)) ((a * 2 ^ t : Nat) : Int) := by
 intro t
 induction t with
 | zero =>
  intro a _ _
  refine Ev.step (fun k => hushref1_Divisor.l2.eq_2 _ _ k) (Ev.neg (by omega) ?_)
  simpa using Ev.ret _
 | succ t ih =>
  intro a ht h
  have h1 : a ≤ a * 2 ^ t := Nat.le_mul_of_pos_right _ (Nat.two_pow_pos t)
  rw [Nat.pow_succ] at h
  have h2 : a * (2 ^ t * 2) = 2 * a * 2 ^ t := by rw [Nat.mul_comm (2 ^ t) 2, ← Nat.mul_assoc, Nat.mul_comm a 2]
  rw [h2] at h
  have h3 : 2 * a ≤ 2 * a * 2 ^ t := Nat.le_mul_of_pos_right _ (Nat.two_pow_pos t)
  have h4 := ih (2 * a) (by omega) h
  refine Ev.step (fun k => hushref1_Divisor.l2.eq_2 _ _ k) (Ev.pos (by omega) ?_)
  have e1 : wrap64 (2 * (a : Int)) = ((2 * a : Nat) : Int) := by rw [wrap64_of (by omega) (by omega)]; omega
  have e2 : wrap64 (((t + 1 : Nat) : Int) - 1) = ((t : Nat) : Int) := by rw [wrap64_of (by omega) (by omega)]; omega
  simp only [e1, e2]
  rw [Nat.pow_succ, h2]
  exact h4
theorem gcd_half {x y : Nat} (hx : x % 2 = 0) (hy : y % 2 = 1) : Nat.gcd (x / 2) y = Nat.gcd x y := by
 have h : x = 2 * (x / 2) := by omega
 have hc : Nat.Coprime 2 y := by
  unfold Nat.Coprime
  rw [Nat.gcd_rec, hy]
  decide
 rw [h]
 simp only [Nat.mul_div_cancel_left _ (show 0 < 2 by decide)]
 exact (Nat.Coprime.gcd_mul_left_cancel (x / 2) hc).symm
theorem div_l1 : ∀ (n x y t : Nat) {r : Int}, x + y ≤ n → 0 < x → 0 < y → (x % 2 = 1 ∨ y % 2 = 1) → x ≤ 9223372036854775807 → y ≤ 9223372036854775807 →
  Ev (fun k => hushref1_Divisor.l2 k ((Nat.gcd x y : Nat) : Int) (t : Int)) r → Ev (fun k => hushref1_Divisor.l1 k (x : Int) (y : Int) (t : Int)) r := by
 intro n
 induction n with
 | zero => intro x y t r h hx; omega
 | succ n ih =>
  intro x y t r h hx hy ho bx bY hr
  by_cases he : x = y
  ·
   subst he
   rw [Nat.gcd_self] at hr
   exact Ev.step (fun k => hushref1_Divisor.l1.eq_2 _ _ _ k) (Ev.pos rfl hr)
  ·
   refine Ev.step (fun k => hushref1_Divisor.l1.eq_2 _ _ _ k) (Ev.neg (by omega) ?_)
   rw [tm2, tm2, td2 x bx, td2 y bY]
   by_cases h0 : x % 2 = 0
   ·
    refine Ev.pos (by omega) (ih (x / 2) y t (by omega) (by omega) hy (by omega) (by omega) bY ?_)
    rw [gcd_half h0 (by omega)]
    exact hr
   ·
    refine Ev.neg (by omega) ?_
    by_cases h1 : y % 2 = 0
    ·
     refine Ev.pos (by omega) (ih x (y / 2) t (by omega) hx (by omega) (by omega) bx (by omega) ?_)
     rw [Nat.gcd_comm, gcd_half h1 (by omega), Nat.gcd_comm]
     exact hr
    ·
     refine Ev.neg (by omega) ?_
     by_cases h2 : x > y
     ·
      refine Ev.pos (by omega) ?_
      have e : wrap64 ((x : Int) - (y : Int)) = ((x - y : Nat) : Int) := by rw [wrap64_of (by omega) (by omega)]; omega
      rw [e]
      refine ih (x - y) y t (by omega) (by omega) hy (by omega) (by omega) bY ?_
      rw [Nat.gcd_sub_self_left (by omega)]
      exact hr
     ·
      refine Ev.neg (by omega) ?_
      have e : wrap64 ((y : Int) - (x : Int)) = ((y - x : Nat) : Int) := by rw [wrap64_of (by omega) (by omega)]; omega
      rw [e]
      refine ih x (y - x) t (by omega) hx (by omega) (by omega) bx (by omega) ?_
      rw [Nat.gcd_sub_self_right (by omega)]
      exact hr
theorem div_l0 : ∀ (n x y t : Nat) {r : Int}, x ≤ n → 0 < x → 0 < y → x ≤ 9223372036854775807 → y ≤ 9223372036854775807 → t + n ≤ 9223372036854775807 →
  Ev (fun k => hushref1_Divisor.l2 k ((Nat.gcd x y : Nat) : Int) (t : Int)) r → Ev (fun k => hushref1_Divisor.l0 k (x : Int) (y : Int) (t : Int)) r := by
 intro n
 induction n with
 | zero => intro x y t r h hx; omega
 | succ n ih =>
  intro x y t r h hx hy bx bY ht hr
  have hj : (x % 2 = 1 ∨ y % 2 = 1) → Ev (fun k => hushref1_Divisor.j1 k (x : Int) (y : Int) (t : Int)) r := fun ho =>
   Ev.step (fun k => hushref1_Divisor.j1.eq_2 _ _ _ k) (div_l1 (x + y) x y t (Nat.le_refl _) hx hy ho bx bY hr)
  refine Ev.step (fun k => hushref1_Divisor.l0.eq_2 _ _ _ k) ?_
  rw [tm2, tm2, td2 x bx, td2 y bY]
  by_cases h0 : x % 2 = 0
  ·
   by_cases h1 : y % 2 = 0
   ·
    have e : wrap64 ((t : Int) + 1) = ((t + 1 : Nat) : Int) := by rw [wrap64_of (by omega) (by omega)]; omega
    refine Ev.pos (by omega) (Ev.pos (by omega) ?_)
    rw [e]
    refine ih (x / 2) (y / 2) (t + 1) (by omega) (by omega) (by omega) (by omega) (by omega) (by omega) ?_
    have hg : Nat.gcd x y = 2 * Nat.gcd (x / 2) (y / 2) := by
     rw [← Nat.gcd_mul_left]
     congr 1 <;> omega
    have hle : Nat.gcd x y ≤ x := Nat.gcd_le_left y hx
    refine Ev.step (fun k => hushref1_Divisor.l2.eq_2 _ _ k) (Ev.pos (by omega) ?_)
    have e1 : wrap64 (2 * ((Nat.gcd (x / 2) (y / 2) : Nat) : Int)) = ((Nat.gcd x y : Nat) : Int) := by rw [wrap64_of (by omega) (by omega)]; omega
    have e2 : wrap64 (((t + 1 : Nat) : Int) - 1) = ((t : Nat) : Int) := by rw [wrap64_of (by omega) (by omega)]; omega
    simp only [e1, e2]
    exact hr
   ·
    exact Ev.pos (by omega) (Ev.neg (by omega) (hj (by omega)))
  ·
   exact Ev.neg (by omega) (hj (by omega))
theorem div_ev {u d : Int} (hu : 0 ≤ u) (hd : 1 ≤ d) (bu : u ≤ 9223372036854775807) (bd : d ≤ 9223372036854775807) : Ev (fun k => hushref1_Divisor.f k u d) ((Int.gcd u d : Nat) : Int) := by
 obtain ⟨x, rfl⟩ := Int.eq_ofNat_of_zero_le hu
 obtain ⟨y, rfl⟩ := Int.eq_ofNat_of_zero_le (show 0 ≤ d by omega)
 by_cases h0 : x = 0
 ·
  subst h0
  refine Ev.pos rfl (Ev.eq (Ev.ret _) ?_)
  simp
 ·
  refine Ev.neg (by omega) ?_
  show Ev (fun k => hushref1_Divisor.l0 k (x : Int) (y : Int) 0) ((Nat.gcd x y : Nat) : Int)
  refine div_l0 x x y 0 (Nat.le_refl _) (by omega) (by omega) (by omega) (by omega) (by omega) ?_
  refine Ev.eq (div_l2 0 (Nat.gcd x y) (by omega) ?_) (by simp)
  have := Nat.gcd_le_left y (show 0 < x by omega)
  simp
  omega
theorem divF {u d : Int} (hu : 0 ≤ u) (hd : 1 ≤ d) (bu : u ≤ 9223372036854775807) (bd : d ≤ 9223372036854775807) : hushref1_Divisor.F u d = some ((Int.gcd u d : Nat) : Int) := (hushref1_Divisor.F_is u d).of_ev (div_ev hu hd bu bd)
def makeS (u d : Int) : Int × Int × Int :=
 if u < 0 ∨ d < 1 then (0, 0, 3) else
 if u / (Int.gcd u d : Nat) > 1073741824 ∨ d / (Int.gcd u d : Nat) > 1073741824 then (0, 0, 4) else (u / (Int.gcd u d : Nat), d / (Int.gcd u d : Nat), 0)
theorem make_j {f : Nat → Option Int} {u d : Int} (hf : 0 ≤ u → 1 ≤ d → Ev f ((Int.gcd u d : Nat) : Int)) (hu : -9223372036854775808 ≤ u ∧ u ≤ 9223372036854775807) (hd : -9223372036854775808 ≤ d ∧ d ≤ 9223372036854775807) (b : Bool) (hb : b = decide (u < 0 ∨ d < 1)) :
  Ev (fun k => if b = true then (some (0, 0, 3)) else ((f k).bind fun t => (if t = 0 then (none) else (if (wrap64 (Int.tdiv u t)) > 1073741824 then (some (0, 0, 4)) else (if (wrap64 (Int.tdiv d t)) > 1073741824 then (some (0, 0, 4)) else (some (wrap64 (Int.tdiv u t), wrap64 (Int.tdiv d t), 0))))))) (makeS u d) := by
 subst hb
 unfold makeS
 by_cases hn : u < 0 ∨ d < 1
 ·
  rw [if_pos hn]
  exact Ev.pos (by simpa using hn) (Ev.ret _)
 ·
  rw [if_neg hn]
  have h1 : 0 ≤ u ∧ 1 ≤ d := by omega
  have hg := gcd_pos (u := u) h1.2
  refine Ev.neg (by simpa using hn) (Ev.bind (hf h1.1 h1.2) (Ev.neg (by omega) ?_))
  rw [quot h1.1 hu.2, quot (by omega) hd.2]
  by_cases c1 : u / (Int.gcd u d : Nat) > 1073741824
  ·
   exact Ev.eq (r := (0, 0, 4)) (Ev.pos c1 (Ev.ret _)) (if_pos (Or.inl c1)).symm
  ·
   by_cases c2 : d / (Int.gcd u d : Nat) > 1073741824
   ·
    exact Ev.eq (r := (0, 0, 4)) (Ev.neg c1 (Ev.pos c2 (Ev.ret _))) (if_pos (Or.inr c2)).symm
   ·
    exact Ev.eq (Ev.neg c1 (Ev.neg c2 (Ev.ret _))) (if_neg (by omega)).symm
end Go.Proofs.Ytkemhfhmlcljjaa.DistPure
end
section
namespace Go.Proofs.Ytkemhfhmlcljjaa.DistPure
set_option linter.unusedVariables false
set_option linter.unusedSimpArgs false
open Go.RowKit Go.Proofs.Ytkemhfhmlcljjaa.PR Go.Proofs.YtkemhfhmlcljjaaW.PrintWords Go.Proofs.YtkemhfhmlcljjaaW.PrintLast Go.Proofs.YtkemhfhmlcljjaaW.PrintMore Go.Proofs.YtkemhfhmlcljjaaW.EvKit
def Outs (l : List S32) (x : List Int) : Prop := ∃ p ∈ l, p.f0 = x ∧ 0 < p.f1
theorem wOf_ge : ∀ {l : List S32}, (∀ p ∈ l, 0 ≤ p.f1) → ∀ {p : S32}, p ∈ l → p.f1 ≤ wOf l p.f0
 | [], _, p, h => by cases h
 | q :: l, h0, p, h => by
  have h1 := h0 q (by simp)
  have h2 : ∀ p ∈ l, 0 ≤ p.f1 := fun x hx => h0 x (by simp [hx])
  rw [wOf_cons]
  rcases List.mem_cons.1 h with e | e
  ·
   subst e
   rw [if_pos rfl]
   have := (wOf_le h2 p.f0).1
   omega
  ·
   have := wOf_ge h2 e
   split <;> omega
theorem wOf_some : ∀ {l : List S32}, (∀ p ∈ l, 0 ≤ p.f1) → ∀ {o : List Int}, 0 < wOf l o → Outs l o
 | [], _, _, h => absurd h (Int.lt_irrefl 0)
 | q :: l, h0, o, h => by
  have h1 := h0 q (by simp)
  rw [wOf_cons] at h
  by_cases c : q.f0 = o ∧ 0 < q.f1
  ·
   exact ⟨q, by simp, c⟩
  ·
   have h2 : 0 < wOf l o := by
    by_cases e : q.f0 = o
    ·
     rw [if_pos e] at h
     have : ¬ 0 < q.f1 := fun x => c ⟨e, x⟩
     omega
    ·
     rw [if_neg e] at h; omega
   obtain ⟨p, hp, e⟩ := wOf_some (fun x hx => h0 x (by simp [hx])) h2
   exact ⟨p, by simp [hp], e⟩
theorem outs_iff {l D : List S32} (h : Canon l D) (h0 : ∀ p ∈ l, 0 ≤ p.f1) (x : List Int) : Outs l x ↔ ∃ q ∈ D, q.f0 = x := by
 have d0 : ∀ p ∈ D, 0 ≤ p.f1 := fun p hp => Int.le_of_lt (h.pos p hp)
 constructor
 ·
  rintro ⟨p, hp, e, hpos⟩
  have := wOf_ge h0 hp
  rw [e, ← h.w] at this
  exact wOf_mem (by omega)
 ·
  rintro ⟨q, hq, e⟩
  have := wOf_ge d0 hq
  have := h.pos q hq
  subst e
  exact wOf_some h0 (by rw [← h.w]; omega)
def Least (S : List Int → Prop) (o : List Int) (f : Bool) : Prop := (f = true → S o ∧ ∀ x, S x → cmpL o x ≤ 0) ∧ (f = false → ∀ x, ¬ S x)
theorem Least.new {S S' : List Int → Prop} {o v : List Int} (h : Least S o false) (hS : ∀ x, S' x ↔ S x ∨ x = v) : Least S' v true :=
 ⟨fun _ => ⟨(hS v).2 (.inr rfl), fun x hx => by
  rcases (hS x).1 hx with h1 | h1
  ·
   exact absurd h1 (h.2 rfl x)
  ·
   rw [h1, cmpL_self]; exact Int.le_refl 0⟩, fun c => by cases c⟩
theorem Least.lt {S S' : List Int → Prop} {o v : List Int} (h : Least S o true) (c : cmpL v o < 0) (hS : ∀ x, S' x ↔ S x ∨ x = v) : Least S' v true :=
 ⟨fun _ => ⟨(hS v).2 (.inr rfl), fun x hx => by
  rcases (hS x).1 hx with h1 | h1
  ·
   exact cmpL_le_trans _ _ _ (Int.le_of_lt c) ((h.1 rfl).2 x h1)
  ·
   rw [h1, cmpL_self]; exact Int.le_refl 0⟩, fun c => by cases c⟩
theorem Least.same {S S' : List Int → Prop} {o : List Int} {f : Bool} (h : Least S o f) (hS : ∀ x, S' x ↔ S x) : Least S' o f :=
 ⟨fun c => ⟨(hS o).2 (h.1 c).1, fun x hx => (h.1 c).2 x ((hS x).1 hx)⟩, fun c x hx => h.2 c x ((hS x).1 hx)⟩
theorem take_one {l : List S32} {i : Nat} (h : i < l.length) : l.take (i + 1) = l.take i ++ [l[i]] := by
 rw [List.take_add_one, List.getElem?_eq_getElem h]; rfl
theorem one_le {l : List S32} (h0 : ∀ p ∈ l, 0 ≤ p.f1) {p : S32} (h : p ∈ l) : p.f1 ≤ totOf l := by
 have h1 := wOf_ge h0 h
 have h2 := (wOf_le h0 p.f0).2
 omega
theorem tStep_len (d : List S32) (p : S32) : (tStep d p).length ≤ d.length + 1 := by
 unfold tStep
 split
 ·
  omega
 ·
  split
  ·
   split
   ·
    rw [List.length_append, List.length_dropLast, List.length_singleton]; omega
   ·
    rw [List.length_append, List.length_singleton]; omega
  ·
   rw [List.length_append, List.length_singleton]; omega
theorem tFold_len : ∀ (l d : List S32), (l.foldl tStep d).length ≤ d.length + l.length
 | [], d => by simp
 | p :: l, d => by
  have := tFold_len l (tStep d p)
  have := tStep_len d p
  rw [List.foldl_cons, List.length_cons]; omega
theorem tMerge_len (l : List S32) : (tMerge (sortP l)).length ≤ l.length := by
 have := tFold_len (sortP l) []
 rw [(sortP_perm l).length_eq, List.length_nil] at this
 unfold tMerge
 omega
theorem totOf_app : ∀ (a b : List S32), totOf (a ++ b) = totOf a + totOf b
 | [], b => by rw [totOf_nil]; exact (Int.zero_add _).symm
 | p :: a, b => by rw [List.cons_append, totOf_cons, totOf_cons, totOf_app a b]; omega
theorem totOf_perm {a b : List S32} (h : a.Perm b) : totOf a = totOf b := isum_perm (h.map _)
theorem tStep_tot (d : List S32) (p : S32) : totOf (tStep d p) = totOf d + p.f1 := by
 unfold tStep
 split
 ·
  omega
 ·
  split
  ·
   rename_i q hq
   obtain ⟨d0, e⟩ : ∃ d0, d = d0 ++ [q] := List.getLast?_eq_some_iff.1 hq
   subst e
   split
   ·
    rw [List.dropLast_concat, totOf_app, totOf_app, totOf_cons, totOf_cons, totOf_nil]
    show _ + (q.f1 + p.f1 + 0) = _
    omega
   ·
    rw [totOf_app _ [p], totOf_cons p, totOf_nil]; omega
  ·
   rw [totOf_app, totOf_cons, totOf_nil]; omega
theorem tFold_tot : ∀ (l d : List S32), totOf (l.foldl tStep d) = totOf d + totOf l
 | [], d => by rw [totOf_nil]; exact (Int.add_zero _).symm
 | p :: l, d => by rw [List.foldl_cons, tFold_tot, tStep_tot, totOf_cons]; omega
theorem tMerge_tot (l : List S32) : totOf (tMerge (sortP l)) = totOf l := by
 unfold tMerge
 rw [tFold_tot, totOf_perm (sortP_perm l), totOf_nil]; omega
end Go.Proofs.Ytkemhfhmlcljjaa.DistPure
end
section
namespace Go.Proofs.Ytkemhfhmlcljjaa.DistPure
set_option linter.unusedVariables false
set_option linter.unusedSimpArgs false
open Go.RowKit Go.Proofs.Ytkemhfhmlcljjaa.PR Go.Proofs.YtkemhfhmlcljjaaW.PrintWords Go.Proofs.YtkemhfhmlcljjaaW.PrintLast Go.Proofs.YtkemhfhmlcljjaaW.PrintMore Go.Proofs.YtkemhfhmlcljjaaW.EvKit
instance : DecidableEq S32 := fun p q => decidable_of_iff (p.f1 = q.f1 ∧ p.f0 = q.f0) (by cases p; cases q; simp only [S32.mk.injEq]; exact And.comm)
structure Bd (l : List S32) : Prop where
 len : l.length ≤ 1048576
 out : ∀ p ∈ l, p.f0.length ≤ 1048576
def okP (p : S32) : Bool := smallB p.f0 && (decide (0 ≤ p.f1) && decide (p.f1 ≤ 1073741824))
theorem okP_iff {p : S32} : okP p = true ↔ smallB p.f0 = true ∧ 0 ≤ p.f1 ∧ p.f1 ≤ 1073741824 := by simp [okP]
def makeP (l : List S32) : List S32 × Int := if l.all okP = true then tDone (tMerge (sortP l)) else ([], 3)
theorem all_ok {l : List S32} (h : l.all okP = true) : ∀ p ∈ l, 0 ≤ p.f1 ∧ p.f1 ≤ 1073741824 := fun p hp => (okP_iff.1 (List.all_eq_true.1 h p hp)).2
theorem all_tot {l : List S32} (h : l.all okP = true) (hl : l.length ≤ 1048576) : totOf l ≤ 4611686018427387904 := by
 have := tot_bd (all_ok h)
 omega
theorem tidyF (l : List S32) (hl : l.length ≤ 1048576) (h : l.all okP = true) : dist_tidy.F l = some (tDone (tMerge (sortP l))) := by
 rw [dist_tidy.F_eq, if_pos]
 unfold tGuard
 have := all_tot h hl
 simp only [Bool.and_eq_true, decide_eq_true_eq, List.all_eq_true]
 exact ⟨⟨by omega, fun p hp => (all_ok h p hp).1⟩, this⟩
theorem cloneF (o : List Int) (h : o.length ≤ 1048576) : slices_Clone_int_int.f o = some o := by
 unfold slices_Clone_int_int.f
 rw [if_pos (by omega)]
theorem make_loop (l : List S32) (h : Bd l) : ∀ (n i : Nat), i + n = l.length → (l.take i).all okP = true →
  dist_Make.L0 (l.take i) l (l.length : Int) (i : Int) = some (if (l.drop i).all okP = true then tDone (tMerge (sortP l)) else ([], 3)) := by
 have hl := h.len
 intro n
 induction n with
 | zero =>
  intro i hi ha
  rw [List.take_of_length_le (show l.length ≤ i by omega)] at ha ⊢
  rw [dist_Make.L0_eq, if_neg (by omega), tidyF l h.len ha, Option.bind_some, List.drop_of_length_le (show l.length ≤ i by omega)]
  rfl
 | succ n ih =>
  intro i hi ha
  have hxi : i < l.length := by omega
  have ho := h.out _ (mem_at hxi)
  rw [dist_Make.L0_eq, if_pos (by omega), if_pos (by omega), if_pos (by omega), rd32At hxi, smallF _ ho, Option.bind_some, List.drop_eq_getElem_cons hxi, List.all_cons]
  have e : okP l[i] = (smallB l[i].f0 && (decide (0 ≤ l[i].f1) && decide (l[i].f1 ≤ 1073741824))) := rfl
  cases c : smallB l[i].f0 with
  | false =>
   rw [if_neg (by decide), e, c]
   rfl
  | true =>
   rw [if_pos rfl]
   by_cases c1 : l[i].f1 < 0
   ·
    rw [if_pos c1, if_neg]
    rw [e, decide_eq_false (show ¬ 0 ≤ l[i].f1 by omega)]
    simp
   ·
    rw [if_neg c1]
    by_cases c2 : l[i].f1 > 1073741824
    ·
     rw [if_pos c2, if_neg]
     rw [e, decide_eq_false (show ¬ l[i].f1 ≤ 1073741824 by omega)]
     simp
    ·
     have hok : okP l[i] = true := okP_iff.2 ⟨c, by omega, by omega⟩
     rw [if_neg c2, cloneF _ ho, Option.bind_some, if_pos (by rw [List.length_take]; omega), hok, Bool.true_and, w1 (by omega)]
     have e2 : l.take i ++ [(⟨l[i].f0, l[i].f1⟩ : S32)] = l.take (i + 1) := (take_one hxi).symm
     rw [e2]
     exact ih (i + 1) (by omega) (by rw [take_one hxi, List.all_append, ha]; simp [hok])
theorem makeF1 (l : List S32) (h : Bd l) : dist_Make.F l = some (makeP l) := by
 rw [dist_Make.F_eq]
 exact make_loop l h l.length 0 (by omega) (by simp)
theorem tDone_bd {D : List S32} (h : Bd D) : Bd (tDone D).1 := by
 unfold tDone
 split
 ·
  exact ⟨by simp, by simp⟩
 ·
  split
  ·
   exact ⟨by simp, by simp⟩
  ·
   refine ⟨by simpa using h.len, fun p hp => ?_⟩
   obtain ⟨q, hq, rfl⟩ := List.mem_map.1 hp
   exact h.out q hq
theorem makeP_bd {l : List S32} (h : Bd l) : Bd (makeP l).1 := by
 unfold makeP
 split
 ·
  rename_i c
  have h0 : ∀ p ∈ l, 0 ≤ p.f1 := fun p hp => (all_ok c p hp).1
  refine tDone_bd ⟨?_, fun q hq => ?_⟩
  ·
   have := tMerge_len l
   have := h.len
   omega
  ·
   obtain ⟨p, hp, e, _⟩ := (outs_iff (tidy_canon h0) h0 q.f0).2 ⟨q, hq, rfl⟩
   rw [← e]
   exact h.out p hp
 ·
  exact ⟨by simp, by simp⟩
theorem s32_eq {p q : S32} : p = q ↔ p.f1 = q.f1 ∧ p.f0 = q.f0 := by
 cases p; cases q
 simp only [S32.mk.injEq]
 exact And.comm
theorem same_loop (a b : List S32) (ha : Bd a) (hb : Bd b) (hl : a.length = b.length) : ∀ (n i : Nat), i + n = a.length →
  api_Part.L0 b a (a.length : Int) (i : Int) = some (decide (a.drop i = b.drop i)) := by
 have hla := ha.len
 intro n
 induction n with
 | zero =>
  intro i hi
  rw [api_Part.L0_eq, if_neg (by omega), List.drop_of_length_le (show a.length ≤ i by omega), List.drop_of_length_le (show b.length ≤ i by omega)]
  rfl
 | succ n ih =>
  intro i hi
  have h1 : i < a.length := by omega
  have h2 : i < b.length := by omega
  rw [api_Part.L0_eq, if_pos (by omega), if_pos (by omega), if_pos (by omega), if_pos (by omega), rd32At h1, rd32At h2, List.drop_eq_getElem_cons h1, List.drop_eq_getElem_cons h2, dist_same_1.F_eq]
  by_cases c1 : a[i].f1 = b[i].f1
  ·
   rw [if_pos c1, eqF _ _ (ha.out _ (mem_at h1)), Option.bind_some, Option.bind_some]
   by_cases c2 : a[i].f0 = b[i].f0
   ·
    rw [if_pos (decide_eq_true c2), w1 (by omega), ih (i + 1) (by omega), show a[i] = b[i] from s32_eq.2 ⟨c1, c2⟩]
    congr 1
    rw [decide_eq_decide]
    exact ⟨fun h => by rw [h], fun h => by injection h⟩
   ·
    rw [if_neg (by simpa using c2)]
    congr 1
    symm
    rw [decide_eq_false_iff_not]
    intro h
    injection h with h _
    exact c2 (by rw [h])
  ·
   rw [if_neg c1, Option.bind_some, if_neg (by decide)]
   congr 1
   symm
   rw [decide_eq_false_iff_not]
   intro h
   injection h with h _
   exact c1 (by rw [h])
theorem sameF (a b : List S32) (ha : Bd a) (hb : Bd b) : dist_same.F a b = some (decide (a = b)) := by
 rw [dist_same.F_eq, api_Part.F_eq]
 by_cases h : a.length = b.length
 ·
  rw [if_pos (by omega)]
  rw [show (0 : Int) = ((0 : Nat) : Int) from rfl, same_loop a b ha hb h a.length 0 (by omega)]
  rfl
 ·
  rw [if_neg (by omega), Option.bind_some]
  congr 1
  symm
  rw [decide_eq_false_iff_not]
  intro e
  exact h (by rw [e])
def wrongP (d : List S32) : Int := if (makeP d).2 = 0 then (if d = (makeP d).1 then 0 else 2) else (makeP d).2
theorem wrongF (d : List S32) (h : Bd d) : dist_Wrong.F d = some (wrongP d) := by
 rw [dist_Wrong.F_eq, makeF1 d h, Option.bind_some]
 unfold wrongP
 by_cases c : (makeP d).2 = 0
 ·
  rw [if_pos c, if_pos c, sameF _ _ h (makeP_bd h), Option.bind_some]
  by_cases c2 : d = (makeP d).1
  ·
   rw [if_pos (decide_eq_true c2), if_pos c2, c]
  ·
   rw [if_neg (by simpa using c2), if_neg c2]
 ·
  rw [if_neg c, if_neg c]
structure Right (d : List S32) : Prop where
 ok : d.all okP = true
 st : Strict d
 pos : 0 < totOf d
 few : totOf d ≤ 1073741824
 much : d.length ≤ 4096
theorem div_sum (g : Int) (hg : 0 < g) : ∀ (D : List S32), totOf (D.map (fun p => (⟨p.f0, p.f1 / g⟩ : S32))) ≤ totOf D / g
 | [] => by rw [List.map_nil, totOf_nil, Int.zero_ediv]; exact Int.le_refl 0
 | p :: D => by
  have ih := div_sum g hg D
  rw [List.map_cons, totOf_cons, totOf_cons]
  have h1 := Int.ediv_mul_le p.f1 (show g ≠ 0 by omega)
  have h2 := Int.ediv_mul_le (totOf D) (show g ≠ 0 by omega)
  have h3 : p.f1 / g + totOf D / g ≤ (p.f1 + totOf D) / g := by
   rw [Int.le_ediv_iff_mul_le hg, Int.add_mul]
   omega
  show p.f1 / g + _ ≤ _
  omega
theorem right_of {d : List S32} (h : wrongP d = 0) : Right d := by
 unfold wrongP at h
 by_cases c : (makeP d).2 = 0
 ·
  rw [if_pos c] at h
  by_cases c2 : d = (makeP d).1
  ·
   unfold makeP at c c2
   by_cases ho : d.all okP = true
   ·
    rw [if_pos ho] at c c2
    have h0 : ∀ p ∈ d, 0 ≤ p.f1 := fun p hp => (all_ok ho p hp).1
    have hc := tidy_canon h0
    have htot := tMerge_tot d
    unfold tDone at c c2
    by_cases e1 : tMerge (sortP d) = []
    ·
     rw [if_pos e1] at c; cases c
    ·
     rw [if_neg e1] at c c2
     have hg := gOf_pos hc.pos e1
     by_cases e2 : totOf (tMerge (sortP d)) / (gOf (tMerge (sortP d)) : Int) > 1073741824 ∨ (tMerge (sortP d)).length > 4096
     ·
      rw [if_pos e2] at c; cases c
     ·
      rw [if_neg e2] at c2
      dsimp only at c2
      have hs := div_sum (gOf (tMerge (sortP d)) : Int) (by omega) (tMerge (sortP d))
      have htot2 : 0 < totOf (tMerge (sortP d)) := by
       cases hD : tMerge (sortP d) with
       | nil => exact absurd hD e1
       | cons q D =>
        have hp := hc.pos q (by rw [hD]; simp)
        have h2 := one_le (l := tMerge (sortP d)) (fun p hp => Int.le_of_lt (hc.pos p hp)) (p := q) (by rw [hD]; simp)
        rw [hD] at h2
        omega
      refine ⟨ho, ?_, by omega, ?_, ?_⟩
      ·
       rw [c2]
       unfold Strict
       rw [List.pairwise_map]
       exact hc.st
      ·
       rw [← c2] at hs
       omega
      ·
       have := congrArg List.length c2
       rw [List.length_map] at this
       omega
   ·
    rw [if_neg ho] at c; cases c
  ·
   rw [if_neg c2] at h; cases h
 ·
  rw [if_neg c] at h; exact absurd h c
end Go.Proofs.Ytkemhfhmlcljjaa.DistPure
end
section
namespace Go.Proofs.Ytkemhfhmlcljjaa.DistPure
set_option linter.unusedVariables false
set_option linter.unusedSimpArgs false
open Go.RowKit Go.Proofs.Ytkemhfhmlcljjaa.PR Go.Proofs.YtkemhfhmlcljjaaW.PrintWords Go.Proofs.YtkemhfhmlcljjaaW.PrintLast Go.Proofs.YtkemhfhmlcljjaaW.PrintMore Go.Proofs.YtkemhfhmlcljjaaW.EvKit
theorem gOf_dvd_go : ∀ (d : List S32) (g : Nat), d.foldl (fun g p => Nat.gcd p.f1.toNat g) g ∣ g ∧ ∀ p ∈ d, d.foldl (fun g p => Nat.gcd p.f1.toNat g) g ∣ p.f1.toNat
 | [], g => ⟨Nat.dvd_refl _, fun p hp => by cases hp⟩
 | q :: d, g => by
  rw [List.foldl_cons]
  obtain ⟨h1, h2⟩ := gOf_dvd_go d (Nat.gcd q.f1.toNat g)
  refine ⟨Nat.dvd_trans h1 (Nat.gcd_dvd_right _ _), fun p hp => ?_⟩
  rcases List.mem_cons.1 hp with e | e
  ·
   rw [e]; exact Nat.dvd_trans h1 (Nat.gcd_dvd_left _ _)
  ·
   exact h2 p e
theorem gOf_dvd {d : List S32} {p : S32} (h : p ∈ d) : gOf d ∣ p.f1.toNat := (gOf_dvd_go d 0).2 p h
theorem gOf_max_go : ∀ (d : List S32) (g n : Nat), n ∣ g → (∀ p ∈ d, n ∣ p.f1.toNat) → n ∣ d.foldl (fun g p => Nat.gcd p.f1.toNat g) g
 | [], g, n, h, _ => h
 | q :: d, g, n, h, h0 => gOf_max_go d _ n (Nat.dvd_gcd (h0 q (by simp)) h) (fun p hp => h0 p (by simp [hp]))
theorem gOf_max {d : List S32} {n : Nat} (h : ∀ p ∈ d, n ∣ p.f1.toNat) : n ∣ gOf d := gOf_max_go d 0 n (Nat.dvd_zero n) h
theorem div_pos' {p : Int} {g : Nat} (hp : 0 < p) (hg : 0 < g) (hd : g ∣ p.toNat) : ∃ m : Nat, 0 < m ∧ p / (g : Int) = (m : Int) ∧ p.toNat = g * m := by
 obtain ⟨m, hm⟩ := hd
 have e : p = ((g * m : Nat) : Int) := by rw [← hm]; omega
 refine ⟨m, ?_, ?_, hm⟩
 ·
  rcases Nat.eq_zero_or_pos m with h | h
  ·
   rw [h, Nat.mul_zero] at hm; omega
  ·
   exact h
 ·
  rw [e, Int.natCast_mul, Int.mul_ediv_cancel_left _ (by omega)]
theorem canon_self {l : List S32} (hs : Strict l) (hp : ∀ p ∈ l, 0 < p.f1) : tMerge (sortP l) = l :=
 (tidy_canon (fun p h => Int.le_of_lt (hp p h))).uniq (⟨hs, hp, fun _ => rfl⟩ : Canon l l) (fun _ => rfl)
def divG (l : List S32) : List S32 := l.map (fun p => (⟨p.f0, p.f1 / (gOf l : Int)⟩ : S32))
structure Ord (l : List S32) : Prop where
 st : Strict l
 pos : ∀ p ∈ l, 0 < p.f1
 ok : l.all okP = true
 ne : l ≠ []
 few : totOf l ≤ 1073741824
 much : l.length ≤ 4096
theorem Ord.make {l : List S32} (h : Ord l) : makeP l = (divG l, 0) := by
 have hg := gOf_pos h.pos h.ne
 have h0 : 0 ≤ totOf l := by
  cases hl : l with
  | nil => exact absurd hl h.ne
  | cons q D =>
   have h1 := one_le (l := l) (fun p hp => Int.le_of_lt (h.pos p hp)) (p := q) (by rw [hl]; simp)
   have h2 := h.pos q (by rw [hl]; simp)
   rw [← hl]; omega
 have h1 : totOf l / (gOf l : Int) ≤ totOf l := Int.ediv_le_self _ h0
 have h2 := h.few
 have h3 := h.much
 unfold makeP
 rw [if_pos h.ok, canon_self h.st h.pos]
 unfold tDone
 rw [if_neg h.ne, if_neg (by omega)]
 rfl
theorem Ord.mem {l : List S32} (h : Ord l) {q : S32} (hq : q ∈ divG l) : ∃ p ∈ l, ∃ m : Nat, 0 < m ∧ q = ⟨p.f0, (m : Int)⟩ ∧ p.f1 = ((gOf l * m : Nat) : Int) := by
 obtain ⟨p, hp, rfl⟩ := List.mem_map.1 hq
 obtain ⟨m, h1, h2, h3⟩ := div_pos' (h.pos p hp) (gOf_pos h.pos h.ne) (gOf_dvd hp)
 have h4 := h.pos p hp
 exact ⟨p, hp, m, h1, by rw [h2], by omega⟩
theorem wOf_map (g : Nat) (hg : 0 < g) (o : List Int) : ∀ (L : List S32), (∀ p ∈ L, 0 < p.f1 ∧ g ∣ p.f1.toNat) → wOf (L.map (fun p => (⟨p.f0, p.f1 / (g : Int)⟩ : S32))) o * (g : Int) = wOf L o
 | [], _ => by simp [wOf, isum]
 | p :: L, h => by
  have ih := wOf_map g hg o L (fun q hq => h q (by simp [hq]))
  obtain ⟨h1, h2⟩ := h p (by simp)
  obtain ⟨m, _, e, e'⟩ := div_pos' h1 hg h2
  have e2 : p.f1 / (g : Int) * (g : Int) = p.f1 := by
   rw [e, ← Int.natCast_mul, Nat.mul_comm]; omega
  rw [List.map_cons, wOf_cons, wOf_cons, Int.add_mul, ih]
  by_cases c : p.f0 = o
  ·
   rw [if_pos c, if_pos c, e2]
  ·
   rw [if_neg c, if_neg c, Int.zero_mul]
theorem tot_map (g : Nat) (hg : 0 < g) : ∀ (L : List S32), (∀ p ∈ L, 0 < p.f1 ∧ g ∣ p.f1.toNat) → totOf (L.map (fun p => (⟨p.f0, p.f1 / (g : Int)⟩ : S32))) * (g : Int) = totOf L
 | [], _ => by rw [List.map_nil, totOf_nil, Int.zero_mul]
 | p :: L, h => by
  have ih := tot_map g hg L (fun q hq => h q (by simp [hq]))
  obtain ⟨h1, h2⟩ := h p (by simp)
  obtain ⟨m, _, e, e'⟩ := div_pos' h1 hg h2
  have e2 : p.f1 / (g : Int) * (g : Int) = p.f1 := by
   rw [e, ← Int.natCast_mul, Nat.mul_comm]; omega
  rw [List.map_cons, totOf_cons, totOf_cons, Int.add_mul, ih]
  show p.f1 / (g : Int) * (g : Int) + _ = _
  rw [e2]
theorem Ord.all {l : List S32} (h : Ord l) : ∀ p ∈ l, 0 < p.f1 ∧ gOf l ∣ p.f1.toNat := fun p hp => ⟨h.pos p hp, gOf_dvd hp⟩
theorem Ord.w {l : List S32} (h : Ord l) (o : List Int) : wOf (divG l) o * (gOf l : Int) = wOf l o := wOf_map (gOf l) (gOf_pos h.pos h.ne) o l h.all
theorem Ord.t {l : List S32} (h : Ord l) : totOf (divG l) * (gOf l : Int) = totOf l := tot_map (gOf l) (gOf_pos h.pos h.ne) l h.all
theorem Ord.g1 {l : List S32} (h : Ord l) : gOf (divG l) = 1 := by
 have hg := gOf_pos h.pos h.ne
 have h1 : gOf l * gOf (divG l) ∣ gOf l := gOf_max (fun q hq => by
  obtain ⟨m, _, h2, h3⟩ := div_pos' (h.pos q hq) hg (gOf_dvd hq)
  have h4 := gOf_dvd (List.mem_map.2 ⟨q, hq, rfl⟩ : (⟨q.f0, q.f1 / (gOf l : Int)⟩ : S32) ∈ divG l)
  rw [h3]
  refine Nat.mul_dvd_mul_left _ ?_
  have h5 : (q.f1 / (gOf l : Int)).toNat = m := by rw [h2]; omega
  rw [← h5]
  exact h4)
 have h2 := Nat.le_of_dvd hg h1
 have h3 : 0 < gOf (divG l) := by
  refine gOf_pos (fun p hp => ?_) (by unfold divG; simpa using h.ne)
  obtain ⟨_, _, m, h1, rfl, _⟩ := h.mem hp
  show (0 : Int) < m
  omega
 generalize gOf (divG l) = x at *
 rcases Nat.lt_or_ge 1 x with c | c
 ·
  have := Nat.mul_lt_mul_of_pos_left c hg
  omega
 ·
  omega
theorem Ord.div {l : List S32} (h : Ord l) : Ord (divG l) := by
 have hg := gOf_pos h.pos h.ne
 refine ⟨?_, ?_, ?_, by unfold divG; simpa using h.ne, ?_, by unfold divG; rw [List.length_map]; exact h.much⟩
 ·
  unfold Strict divG
  rw [List.pairwise_map]
  exact h.st
 ·
  intro p hp
  obtain ⟨_, _, m, h1, rfl, _⟩ := h.mem hp
  show (0 : Int) < m
  omega
 ·
  rw [List.all_eq_true]
  intro q hq
  obtain ⟨p, hp, m, h1, rfl, e⟩ := h.mem hq
  obtain ⟨k1, k2, k3⟩ := okP_iff.1 (List.all_eq_true.1 h.ok p hp)
  have : m ≤ gOf l * m := Nat.le_mul_of_pos_left m hg
  refine okP_iff.2 ⟨k1, ?_, ?_⟩
  ·
   show (0 : Int) ≤ m
   omega
  ·
   show (m : Int) ≤ 1073741824
   omega
 ·
  have := div_sum (gOf l : Int) (by omega) l
  have h2 := h.few
  have h1 : totOf l / (gOf l : Int) ≤ totOf l := by
   refine Int.ediv_le_self _ ?_
   cases hl : l with
   | nil => exact absurd hl h.ne
   | cons q D =>
    have h1 := one_le (l := l) (fun p hp => Int.le_of_lt (h.pos p hp)) (p := q) (by rw [hl]; simp)
    have h2 := h.pos q (by rw [hl]; simp)
    rw [← hl]; omega
  unfold divG
  omega
theorem Ord.wrong {l : List S32} (h : Ord l) : wrongP (divG l) = 0 := by
 have e : divG (divG l) = divG l := by
  have h1 := h.g1
  have e2 : divG (divG l) = (divG l).map (fun p => (⟨p.f0, p.f1 / (gOf (divG l) : Int)⟩ : S32)) := rfl
  rw [e2, h1]
  have e3 : ∀ L : List S32, L.map (fun p => (⟨p.f0, p.f1 / ((1 : Nat) : Int)⟩ : S32)) = L := fun L => by
   induction L with
   | nil => rfl
   | cons p L ih =>
    rw [List.map_cons, ih]
    congr 1
    have : p.f1 / ((1 : Nat) : Int) = p.f1 := by rw [Int.natCast_one, Int.ediv_one]
    rw [this]
  exact e3 _
 unfold wrongP
 rw [h.div.make, e]
 simp
theorem Ord.bd {l : List S32} (h : Ord l) (hb : Bd l) : Bd (divG l) := by
 have := makeP_bd hb
 rw [h.make] at this
 exact this
end Go.Proofs.Ytkemhfhmlcljjaa.DistPure
end
section
namespace Go.Proofs.Ytkemhfhmlcljjaa.DistPure
set_option linter.unusedVariables false
set_option linter.unusedSimpArgs false
open Go.RowKit Go.Proofs.Ytkemhfhmlcljjaa.PR Go.Proofs.YtkemhfhmlcljjaaW.PrintWords Go.Proofs.YtkemhfhmlcljjaaW.PrintLast Go.Proofs.YtkemhfhmlcljjaaW.PrintMore Go.Proofs.YtkemhfhmlcljjaaW.EvKit
theorem g1_of {l : List S32} (hp : ∀ p ∈ l, 0 < p.f1) (hn : l ≠ []) : gOf (divG l) = 1 := by
 have hg := gOf_pos hp hn
 have h1 : gOf l * gOf (divG l) ∣ gOf l := gOf_max (fun q hq => by
  obtain ⟨m, _, h2, h3⟩ := div_pos' (hp q hq) hg (gOf_dvd hq)
  have h4 := gOf_dvd (List.mem_map.2 ⟨q, hq, rfl⟩ : (⟨q.f0, q.f1 / (gOf l : Int)⟩ : S32) ∈ divG l)
  rw [h3]
  refine Nat.mul_dvd_mul_left _ ?_
  have h5 : (q.f1 / (gOf l : Int)).toNat = m := by rw [h2]; omega
  rw [← h5]
  exact h4)
 have h2 := Nat.le_of_dvd hg h1
 have h3 : 0 < gOf (divG l) := by
  refine gOf_pos (fun p hp' => ?_) (by unfold divG; simpa using hn)
  obtain ⟨q, hq, rfl⟩ := List.mem_map.1 hp'
  obtain ⟨m, h1, h2, _⟩ := div_pos' (hp q hq) hg (gOf_dvd hq)
  show 0 < q.f1 / (gOf l : Int)
  omega
 generalize gOf (divG l) = x at *
 rcases Nat.lt_or_ge 1 x with c | c
 ·
  have := Nat.mul_lt_mul_of_pos_left c hg
  omega
 ·
  omega
theorem divG_same {l : List S32} (h : gOf l = 1) : divG l = l := by
 unfold divG
 rw [h]
 have e3 : ∀ L : List S32, L.map (fun p => (⟨p.f0, p.f1 / ((1 : Nat) : Int)⟩ : S32)) = L := fun L => by
  induction L with
  | nil => rfl
  | cons p L ih =>
   rw [List.map_cons, ih]
   congr 1
   have : p.f1 / ((1 : Nat) : Int) = p.f1 := by rw [Int.natCast_one, Int.ediv_one]
   rw [this]
 exact e3 l
theorem make_right' {l : List S32} (h : (makeP l).2 = 0) : wrongP (makeP l).1 = 0 ∧ ∃ g : Nat, 0 < g ∧ (∀ o, wOf (makeP l).1 o * (g : Int) = wOf l o) ∧ totOf (makeP l).1 * (g : Int) = totOf l := by
 unfold makeP at h ⊢
 by_cases ho : l.all okP = true
 ·
  rw [if_pos ho] at h ⊢
  have h0 : ∀ p ∈ l, 0 ≤ p.f1 := fun p hp => (all_ok ho p hp).1
  have hc := tidy_canon h0
  have htot := tMerge_tot l
  have hout : ∀ q ∈ tMerge (sortP l), smallB q.f0 = true := fun q hq => by
   obtain ⟨p, hp, e, _⟩ := (outs_iff hc h0 q.f0).2 ⟨q, hq, rfl⟩
   rw [← e]
   exact (okP_iff.1 (List.all_eq_true.1 ho p hp)).1
  generalize hD : tMerge (sortP l) = D at *
  unfold tDone at h ⊢
  by_cases e1 : D = []
  ·
   rw [if_pos e1] at h; cases h
  ·
   rw [if_neg e1] at h ⊢
   by_cases e2 : totOf D / (gOf D : Int) > 1073741824 ∨ D.length > 4096
   ·
    rw [if_pos e2] at h; cases h
   ·
    rw [if_neg e2]
    have hg := gOf_pos hc.pos e1
    have all : ∀ p ∈ D, 0 < p.f1 ∧ gOf D ∣ p.f1.toNat := fun p hp => ⟨hc.pos p hp, gOf_dvd hp⟩
    have hs := div_sum (gOf D : Int) (by omega) D
    have ps : ∀ p ∈ divG D, 0 < p.f1 := fun p hp => by
     obtain ⟨q, hq, rfl⟩ := List.mem_map.1 hp
     obtain ⟨m, h1, h2, _⟩ := div_pos' (hc.pos q hq) hg (gOf_dvd hq)
     show 0 < q.f1 / (gOf D : Int)
     omega
    have hO : Ord (divG D) := by
     refine ⟨?_, ps, ?_, by unfold divG; simpa using e1, ?_, by unfold divG; rw [List.length_map]; omega⟩
     ·
      unfold Strict divG
      rw [List.pairwise_map]
      exact hc.st
     ·
      rw [List.all_eq_true]
      intro q hq
      have h3 := one_le (l := divG D) (fun p hp => Int.le_of_lt (ps p hp)) hq
      have h4 := ps q hq
      have h5 : totOf (divG D) ≤ totOf D / (gOf D : Int) := hs
      obtain ⟨p, hp, rfl⟩ := List.mem_map.1 hq
      exact okP_iff.2 ⟨hout p hp, by omega, by omega⟩
     ·
      have h5 : totOf (divG D) ≤ totOf D / (gOf D : Int) := hs
      omega
    have hg1 := g1_of hc.pos e1
    constructor
    ·
     show wrongP (divG D) = 0
     unfold wrongP
     rw [hO.make, divG_same hg1]
     simp
    ·
     refine ⟨gOf D, hg, fun o => ?_, ?_⟩
     ·
      exact (wOf_map (gOf D) hg o D all).trans (hc.w o)
     ·
      exact (tot_map (gOf D) hg D all).trans htot
 ·
  rw [if_neg ho] at h; cases h
end Go.Proofs.Ytkemhfhmlcljjaa.DistPure
end
section
namespace Go.Proofs.Ytkemhfhmlcljjaa.PR
set_option maxRecDepth 100000
open Go.RowKit Go.Proofs.YtkemhfhmlcljjaaW.PrintWords Go.Proofs.YtkemhfhmlcljjaaW.PrintLast Go.Proofs.YtkemhfhmlcljjaaW.PrintMore
open Go.Proofs.YtkemhfhmlcljjaaW.EvKit
set_option linter.unusedVariables false
noncomputable def dist_wrongs.L0 (x6 : List (List (S32))) (x7 : Int) (x8 : Int) : Option (Int) := lim (fun k => dist_wrongs.l0 k x6 x7 x8)
theorem dist_wrongs.L0_is (x6 : List (List (S32))) (x7 : Int) (x8 : Int) : LimIs (fun k => dist_wrongs.l0 k x6 x7 x8) (dist_wrongs.L0 x6 x7 x8) := ⟨fun k => (dist_wrongs.mono_l k) x6 x7 x8, rfl⟩
noncomputable def plain_Bind.F (l0 : List S32) (l1 : List S45) : Option (List S32 × Int) := lim (fun k => plain_Bind.f k l0 l1)
theorem plain_Bind.F_is (l0 : List S32) (l1 : List S45) : LimIs (fun k => plain_Bind.f k l0 l1) (plain_Bind.F l0 l1) := ⟨fun k => plain_Bind.mono l0 l1 k, rfl⟩
noncomputable def dist_wrongs.F (l0 : List (List (S32))) : Option (Int) := lim (fun k => dist_wrongs.f k l0)
theorem dist_wrongs.F_is (l0 : List (List (S32))) : LimIs (fun k => dist_wrongs.f k l0) (dist_wrongs.F l0) := ⟨fun k => dist_wrongs.mono l0 k, rfl⟩
theorem dist_wrongs.L0_eq (x6 : List (List (S32))) (x7 : Int) (x8 : Int) : dist_wrongs.L0 x6 x7 x8 = if x8 < x7 then (if 0 ≤ x8 then (if x8 < (x6.length : Int) then ((dist_Wrong.F (rd_L3 x6 x8)).bind fun t201 => (if t201 = 0 then (dist_wrongs.L0 x6 x7 (wrap64 (x8 + 1))) else (some t201))) else (none)) else (none)) else (some 0) := by
 refine LimIs.step' (dist_wrongs.L0_is x6 x7 x8).1 (b := fun k => if x8 < x7 then (if 0 ≤ x8 then (if x8 < (x6.length : Int) then ((dist_Wrong.f k (rd_L3 x6 x8)).bind fun t201 => (if t201 = 0 then (dist_wrongs.l0 k x6 x7 (wrap64 (x8 + 1))) else (some t201))) else (none)) else (none)) else (some 0)) (fun k => by first | rfl | rw [dist_wrongs.l0]) ?_
 repeat' first
  | (with_reducible exact dist_Wrong.F_is _)
  | (with_reducible exact dist_wrongs.L0_is _ _ _)
  | (with_reducible exact LimIs.const _)
  | (with_reducible refine LimIs.ite ?_ ?_)
  | (with_reducible refine LimIs.bind ?_ (fun _ => ?_))
  | exact dist_Wrong.F_is _
  | exact dist_wrongs.L0_is _ _ _
  | exact LimIs.const _
  | refine LimIs.ite ?_ ?_
  | refine LimIs.bind ?_ (fun _ => ?_)
theorem plain_Bind.F_eq (l0 : List S32) (l1 : List S45) : plain_Bind.F l0 l1 = dist_Bind.F l0 l1 := by
 refine LimIs.out (?_ : LimIs (fun k => dist_Bind.f k l0 l1) _)
 repeat' first
  | (with_reducible exact dist_Bind.F_is _ _)
  | (with_reducible exact LimIs.const _)
  | (with_reducible refine LimIs.ite ?_ ?_)
  | (with_reducible refine LimIs.bind ?_ (fun _ => ?_))
  | exact dist_Bind.F_is _ _
  | exact LimIs.const _
  | refine LimIs.ite ?_ ?_
  | refine LimIs.bind ?_ (fun _ => ?_)
theorem dist_wrongs.F_eq (l0 : List (List (S32))) : dist_wrongs.F l0 = dist_wrongs.L0 l0 (l0.length : Int) 0 := by
 refine LimIs.out (?_ : LimIs (fun k => dist_wrongs.l0 k l0 (l0.length : Int) 0) _)
 repeat' first
  | (with_reducible exact dist_wrongs.L0_is _ _ _)
  | (with_reducible exact LimIs.const _)
  | (with_reducible refine LimIs.ite ?_ ?_)
  | (with_reducible refine LimIs.bind ?_ (fun _ => ?_))
  | exact dist_wrongs.L0_is _ _ _
  | exact LimIs.const _
  | refine LimIs.ite ?_ ?_
  | refine LimIs.bind ?_ (fun _ => ?_)
end Go.Proofs.Ytkemhfhmlcljjaa.PR
end
section
namespace Go.Proofs.Ytkemhfhmlcljjaa.DistPure
set_option linter.unusedVariables false
set_option linter.unusedSimpArgs false
open Go.RowKit Go.Proofs.Ytkemhfhmlcljjaa.PR Go.Proofs.YtkemhfhmlcljjaaW.PrintWords Go.Proofs.YtkemhfhmlcljjaaW.PrintLast Go.Proofs.YtkemhfhmlcljjaaW.PrintMore Go.Proofs.YtkemhfhmlcljjaaW.EvKit
theorem right_form {d : List S32} (h : wrongP d = 0) : ∃ D : List S32, (∀ p ∈ D, 0 < p.f1) ∧ D ≠ [] ∧ d = D.map (fun p => (⟨p.f0, p.f1 / (gOf D : Int)⟩ : S32)) := by
 unfold wrongP at h
 by_cases c : (makeP d).2 = 0
 ·
  rw [if_pos c] at h
  by_cases c2 : d = (makeP d).1
  ·
   unfold makeP at c c2
   by_cases ho : d.all okP = true
   ·
    rw [if_pos ho] at c c2
    have hc := tidy_canon (fun p hp => (all_ok ho p hp).1)
    unfold tDone at c c2
    by_cases e1 : tMerge (sortP d) = []
    ·
     rw [if_pos e1] at c; cases c
    ·
     rw [if_neg e1] at c c2
     by_cases e2 : totOf (tMerge (sortP d)) / (gOf (tMerge (sortP d)) : Int) > 1073741824 ∨ (tMerge (sortP d)).length > 4096
     ·
      rw [if_pos e2] at c; cases c
     ·
      rw [if_neg e2] at c2
      exact ⟨_, hc.pos, e1, c2⟩
   ·
    rw [if_neg ho] at c; cases c
  ·
   rw [if_neg c2] at h; cases h
 ·
  rw [if_neg c] at h; exact absurd h c
theorem right_more {d : List S32} (h : wrongP d = 0) : (∀ p ∈ d, 0 < p.f1) ∧ gOf d = 1 := by
 obtain ⟨D, h0, hn, rfl⟩ := right_form h
 have hg := gOf_pos h0 hn
 have key : ∀ p ∈ D, ∃ m : Nat, 0 < m ∧ p.f1 / (gOf D : Int) = (m : Int) ∧ p.f1.toNat = gOf D * m := fun p hp => div_pos' (h0 p hp) hg (gOf_dvd hp)
 constructor
 ·
  intro p hp
  obtain ⟨q, hq, rfl⟩ := List.mem_map.1 hp
  obtain ⟨m, h1, h2, _⟩ := key q hq
  show 0 < q.f1 / (gOf D : Int)
  omega
 ·
  have h1 : gOf D * gOf (D.map (fun p => (⟨p.f0, p.f1 / (gOf D : Int)⟩ : S32))) ∣ gOf D := gOf_max (fun q hq => by
   obtain ⟨m, _, h2, h3⟩ := key q hq
   have h4 := gOf_dvd (List.mem_map.2 ⟨q, hq, rfl⟩ : (⟨q.f0, q.f1 / (gOf D : Int)⟩ : S32) ∈ D.map (fun p => (⟨p.f0, p.f1 / (gOf D : Int)⟩ : S32)))
   rw [h3]
   refine Nat.mul_dvd_mul_left _ ?_
   have h5 : (q.f1 / (gOf D : Int)).toNat = m := by rw [h2]; omega
   rw [← h5]
   exact h4)
  have h2 := Nat.le_of_dvd hg h1
  have h3 : 0 < gOf (D.map (fun p => (⟨p.f0, p.f1 / (gOf D : Int)⟩ : S32))) := by
   refine gOf_pos (fun p hp => ?_) (by simpa using hn)
   obtain ⟨q, hq, rfl⟩ := List.mem_map.1 hp
   obtain ⟨m, h1, h2, _⟩ := key q hq
   show 0 < q.f1 / (gOf D : Int)
   omega
  generalize gOf (D.map (fun p => (⟨p.f0, p.f1 / (gOf D : Int)⟩ : S32))) = x at *
  rcases Nat.lt_or_ge 1 x with c | c
  ·
   have := Nat.mul_lt_mul_of_pos_left c hg
   omega
  ·
   omega
def outsL (a b : List S32) : List (List Int) := a.map (·.f0) ++ (b.filter (fun p => decide (wOf a p.f0 = 0))).map (·.f0)
def pw (a b : List S32) (o : List Int) : Int × Int := (wOf a o, wOf b o)
theorem wOf_skip {p : S32} {a : List S32} {o : List Int} (h : p.f0 ≠ o) : wOf (p :: a) o = wOf a o := by rw [wOf_cons, if_neg h, Int.zero_add]
theorem wOf_hit {p : S32} {a : List S32} (h : Strict (p :: a)) : wOf (p :: a) p.f0 = p.f1 := by rw [wOf_cons, if_pos rfl, strict_head h, Int.add_zero]
theorem lt_ne {a b : List Int} (h : cmpL a b < 0) : a ≠ b := fun e => by rw [e, cmpL_self] at h; exact absurd h (Int.lt_irrefl 0)
theorem below_none {o : List Int} {b : List S32} (h : ∀ q ∈ b, cmpL o q.f0 < 0) : wOf b o = 0 := wOf_none _ _ (fun q hq e => lt_ne (h q hq) e.symm)
theorem outs_mem {a b : List S32} {o : List Int} (h : o ∈ outsL a b) : (∃ p ∈ a, p.f0 = o) ∨ (∃ q ∈ b, q.f0 = o) := by
 rcases List.mem_append.1 h with h | h
 ·
  exact .inl (List.mem_map.1 h)
 ·
  obtain ⟨q, hq, e⟩ := List.mem_map.1 h
  exact .inr ⟨q, (List.mem_filter.1 hq).1, e⟩
theorem filter_skip {p : S32} {a : List S32} : ∀ {b : List S32}, (∀ q ∈ b, p.f0 ≠ q.f0) → b.filter (fun q => decide (wOf (p :: a) q.f0 = 0)) = b.filter (fun q => decide (wOf a q.f0 = 0)) := fun h =>
 List.filter_congr (fun q hq => by rw [wOf_skip (h q hq)])
theorem side_l {p : S32} {a b : List S32} (hs : Strict (p :: a)) (hb : ∀ q ∈ b, cmpL p.f0 q.f0 < 0) : (outsL (p :: a) b).map (pw (p :: a) b) = (p.f1, 0) :: (outsL a b).map (pw a b) := by
 have hne : ∀ q ∈ b, p.f0 ≠ q.f0 := fun q hq => lt_ne (hb q hq)
 unfold outsL
 rw [filter_skip hne, List.map_cons, List.cons_append, List.map_cons]
 congr 1
 ·
  unfold pw; rw [wOf_hit hs, below_none hb]
 ·
  refine List.map_congr_left (fun o ho => ?_)
  have ho' : p.f0 ≠ o := by
   rcases outs_mem ho with ⟨q, hq, e⟩ | ⟨q, hq, e⟩
   ·
    rw [← e]; exact lt_ne ((List.pairwise_cons.1 hs).1 q hq)
   ·
    rw [← e]; exact hne q hq
  unfold pw; rw [wOf_skip ho']
theorem side_r {q : S32} {a b : List S32} (hs : Strict (q :: b)) (ha : ∀ p ∈ a, cmpL q.f0 p.f0 < 0) : ((outsL a (q :: b)).map (pw a (q :: b))).Perm ((0, q.f1) :: (outsL a b).map (pw a b)) := by
 have e0 : wOf a q.f0 = 0 := below_none ha
 have e1 : outsL a (q :: b) = a.map (·.f0) ++ q.f0 :: (b.filter (fun p => decide (wOf a p.f0 = 0))).map (·.f0) := by
  unfold outsL; rw [List.filter_cons_of_pos (by simpa using e0), List.map_cons]
 rw [e1]
 refine ((List.perm_middle (l₁ := a.map (·.f0))).map _).trans ?_
 rw [List.map_cons]
 have e2 : pw a (q :: b) q.f0 = (0, q.f1) := by unfold pw; rw [e0, wOf_hit hs]
 rw [e2]
 refine List.Perm.cons _ (List.Perm.of_eq ?_)
 refine List.map_congr_left (fun o ho => ?_)
 have ho' : q.f0 ≠ o := by
  rcases outs_mem (a := a) (b := b) ho with ⟨p, hp, e⟩ | ⟨p, hp, e⟩
  ·
   rw [← e]; exact lt_ne (ha p hp)
  ·
   rw [← e]; exact lt_ne ((List.pairwise_cons.1 hs).1 p hp)
 unfold pw; rw [wOf_skip ho']
theorem side_e {p q : S32} {a b : List S32} (hp : 0 < p.f1) (hsa : Strict (p :: a)) (hsb : Strict (q :: b)) (e : p.f0 = q.f0) : (outsL (p :: a) (q :: b)).map (pw (p :: a) (q :: b)) = (p.f1, q.f1) :: (outsL a b).map (pw a b) := by
 have hne : ∀ r ∈ b, p.f0 ≠ r.f0 := fun r hr => by rw [e]; exact lt_ne ((List.pairwise_cons.1 hsb).1 r hr)
 have h1 : wOf (p :: a) q.f0 = p.f1 := by rw [← e]; exact wOf_hit hsa
 unfold outsL
 rw [List.filter_cons_of_neg (by rw [h1]; simp; omega), filter_skip hne, List.map_cons, List.cons_append, List.map_cons]
 congr 1
 ·
  unfold pw; rw [wOf_hit hsa, e, wOf_hit hsb]
 ·
  refine List.map_congr_left (fun o ho => ?_)
  have ho' : p.f0 ≠ o := by
   rcases outs_mem (a := a) (b := b) ho with ⟨r, hr, e2⟩ | ⟨r, hr, e2⟩
   ·
    rw [← e2]; exact lt_ne ((List.pairwise_cons.1 hsa).1 r hr)
   ·
    rw [← e2]; exact hne r hr
  unfold pw; rw [wOf_skip ho', wOf_skip (by rw [← e]; exact ho')]
theorem strict_tail {p : S32} {a : List S32} (h : Strict (p :: a)) : Strict a := (List.pairwise_cons.1 h).2
theorem pairs_perm : ∀ (n : Nat) (a b : List S32), a.length + b.length ≤ n → Strict a → Strict b → (∀ p ∈ a, 0 < p.f1) → (pairsL a b).Perm ((outsL a b).map (pw a b))
 | n, [], [], _, _, _, _ => by rw [pairs_nil]; exact List.Perm.refl _
 | 0, _ :: _, _, h, _, _, _ => by simp at h
 | 0, [], _ :: _, h, _, _, _ => by simp at h
 | n + 1, [], q :: b, h, ha, hb, h0 => by
  rw [pairs_r]
  exact (List.Perm.cons _ (pairs_perm n [] b (by simp at h ⊢; omega) ha (strict_tail hb) h0)).trans (side_r hb (fun p hp => by cases hp)).symm
 | n + 1, p :: a, [], h, ha, hb, h0 => by
  rw [pairs_l, side_l ha (fun q hq => by cases hq)]
  exact List.Perm.cons _ (pairs_perm n a [] (by simp at h ⊢; omega) (strict_tail ha) hb (fun x hx => h0 x (by simp [hx])))
 | n + 1, p :: a, q :: b, h, ha, hb, h0 => by
  by_cases h1 : cmpL p.f0 q.f0 < 0
  ·
   rw [pairs_lt _ _ h1, side_l ha (fun r hr => by
    rcases List.mem_cons.1 hr with c | c
    ·
     rw [c]; exact h1
    ·
     exact cmpL_trans _ _ _ h1 ((List.pairwise_cons.1 hb).1 r c))]
   exact List.Perm.cons _ (pairs_perm n a (q :: b) (by simp at h ⊢; omega) (strict_tail ha) hb (fun x hx => h0 x (by simp [hx])))
  ·
   by_cases h2 : cmpL p.f0 q.f0 > 0
   ·
    rw [pairs_gt _ _ h2]
    have h3 : cmpL q.f0 p.f0 < 0 := by have := cmpL_swap p.f0 q.f0; omega
    exact (List.Perm.cons _ (pairs_perm n (p :: a) b (by simp at h ⊢; omega) ha (strict_tail hb) h0)).trans (side_r hb (fun r hr => by
     rcases List.mem_cons.1 hr with c | c
     ·
      rw [c]; exact h3
     ·
      exact cmpL_trans _ _ _ h3 ((List.pairwise_cons.1 ha).1 r c))).symm
   ·
    rw [pairs_eq _ _ (by omega), side_e (h0 p (by simp)) ha hb (cmpL_eq _ _ (by omega))]
    exact List.Perm.cons _ (pairs_perm n a b (by simp at h ⊢; omega) (strict_tail ha) (strict_tail hb) (fun x hx => h0 x (by simp [hx])))
theorem pairs_perm' {a b : List S32} (ha : Strict a) (hb : Strict b) (h0 : ∀ p ∈ a, 0 < p.f1) : (pairsL a b).Perm ((outsL a b).map (pw a b)) := pairs_perm _ a b (Nat.le_refl _) ha hb h0
end Go.Proofs.Ytkemhfhmlcljjaa.DistPure
end
section
namespace Go.Proofs.Ytkemhfhmlcljjaa.DistPure
set_option linter.unusedVariables false
set_option linter.unusedSimpArgs false
open Go.RowKit Go.Proofs.Ytkemhfhmlcljjaa.PR Go.Proofs.YtkemhfhmlcljjaaW.PrintWords Go.Proofs.YtkemhfhmlcljjaaW.PrintLast Go.Proofs.YtkemhfhmlcljjaaW.PrintMore Go.Proofs.YtkemhfhmlcljjaaW.EvKit
def le2 (f g : Nat × Nat) : Prop := f.1 * g.2 ≤ g.1 * f.2
def pos2 (f : Nat × Nat) : Prop := 1 ≤ f.1 ∧ 1 ≤ f.2
theorem le2_refl (f : Nat × Nat) : le2 f f := Nat.le_refl _
theorem le2_trans {f g h : Nat × Nat} (hg : 1 ≤ g.2) (h1 : le2 f g) (h2 : le2 g h) : le2 f h := by
 unfold le2 at *
 have a : f.1 * g.2 * h.2 ≤ g.1 * f.2 * h.2 := Nat.mul_le_mul_right _ h1
 have b : g.1 * h.2 * f.2 ≤ h.1 * g.2 * f.2 := Nat.mul_le_mul_right _ h2
 have c : f.1 * h.2 * g.2 ≤ h.1 * f.2 * g.2 := by
  calc f.1 * h.2 * g.2 = f.1 * g.2 * h.2 := by rw [Nat.mul_assoc, Nat.mul_comm h.2, ← Nat.mul_assoc]
   _ ≤ g.1 * f.2 * h.2 := a
   _ = g.1 * h.2 * f.2 := by rw [Nat.mul_assoc, Nat.mul_comm f.2, ← Nat.mul_assoc]
   _ ≤ h.1 * g.2 * f.2 := b
   _ = h.1 * f.2 * g.2 := by rw [Nat.mul_assoc, Nat.mul_comm g.2, ← Nat.mul_assoc]
 exact Nat.le_of_mul_le_mul_right c hg
structure Mx (s : Nat × Nat) (F : List (Nat × Nat)) : Prop where
 pos : pos2 s
 one : le2 (1, 1) s
 ub : ∀ f ∈ F, le2 f s
 got : le2 s (1, 1) ∨ ∃ f ∈ F, le2 s f
theorem Mx.start : Mx (1, 1) [] := ⟨⟨Nat.le_refl _, Nat.le_refl _⟩, le2_refl _, fun f hf => (by cases hf), .inl (le2_refl _)⟩
theorem Mx.keep {s f : Nat × Nat} {F : List (Nat × Nat)} (h : Mx s F) (hf : le2 f s) : Mx s (F ++ [f]) :=
 ⟨h.pos, h.one, fun g hg => by
  rcases List.mem_append.1 hg with hg | hg
  ·
   exact h.ub g hg
  ·
   rw [List.mem_singleton.1 hg]; exact hf, by
  rcases h.got with h | ⟨g, hg, h⟩
  ·
   exact .inl h
  ·
   exact .inr ⟨g, by simp [hg], h⟩⟩
theorem Mx.take {s f t : Nat × Nat} {F : List (Nat × Nat)} (h : Mx s F) (ht : pos2 t) (hf : le2 s f) (h1 : le2 f t) (h2 : le2 t f) (hfp : pos2 f) : Mx t (F ++ [f]) :=
 ⟨ht, le2_trans hfp.2 (le2_trans h.pos.2 h.one hf) h1, fun g hg => by
  rcases List.mem_append.1 hg with hg | hg
  ·
   exact le2_trans hfp.2 (le2_trans h.pos.2 (h.ub g hg) hf) h1
  ·
   rw [List.mem_singleton.1 hg]; exact h1, .inr ⟨f, by simp, h2⟩⟩
theorem Mx.le {s t : Nat × Nat} {F G : List (Nat × Nat)} (h : Mx s F) (k : Mx t G) (hF : ∀ f ∈ F, pos2 f ∧ ∃ g ∈ G, pos2 g ∧ le2 f g) : le2 s t := by
 rcases h.got with c | ⟨f, hf, c⟩
 ·
  exact le2_trans (Nat.le_refl 1) c k.one
 ·
  obtain ⟨h1, g, hg, h2, h3⟩ := hF f hf
  exact le2_trans h1.2 c (le2_trans h2.2 h3 (k.ub g hg))
def hl (ta tb : Nat) (x : Int × Int) : Nat × Nat := (fHi ta tb x, fLo ta tb x)
def uv (ta tb : Nat) (x : Int × Int) : Nat × Nat := (x.1.toNat * tb, x.2.toNat * ta)
theorem div_same {a g : Nat} (h : g ∣ a) : a / g * g = a := Nat.div_mul_cancel h
theorem UV_eq {ta tb : Nat} {x : Int × Int} (hg : 1 ≤ fG ta tb x) : le2 (hl ta tb x) (fU ta tb x, fV ta tb x) ∧ le2 (fU ta tb x, fV ta tb x) (hl ta tb x) ∧ Nat.gcd (fU ta tb x) (fV ta tb x) = 1 := by
 have d1 : fG ta tb x ∣ fHi ta tb x := Nat.gcd_dvd_right _ _
 have d2 : fG ta tb x ∣ fLo ta tb x := Nat.gcd_dvd_left _ _
 have e1 : fU ta tb x * fG ta tb x = fHi ta tb x := div_same d1
 have e2 : fV ta tb x * fG ta tb x = fLo ta tb x := div_same d2
 have e : fHi ta tb x * fV ta tb x = fU ta tb x * fLo ta tb x := by rw [← e1, ← e2, Nat.mul_assoc, Nat.mul_comm (fG ta tb x)]
 refine ⟨Nat.le_of_eq e, Nat.le_of_eq e.symm, ?_⟩
 unfold fU fV
 rw [Nat.gcd_comm]
 exact Nat.coprime_div_gcd_div_gcd (m := fLo ta tb x) (n := fHi ta tb x) hg
theorem fStep_mx {ta tb : Nat} (ha : 1 ≤ ta) (ha' : ta ≤ 1073741824) (hb : 1 ≤ tb) (hb' : tb ≤ 1073741824) {x : Int × Int} (h : pOk x) (h0 : pNo x) {s : Nat × Nat} {F : List (Nat × Nat)} (hm : Mx s F) (hc : Nat.gcd s.1 s.2 = 1) :
  Mx (fStep ta tb s x) (F ++ [hl ta tb x]) ∧ Nat.gcd (fStep ta tb s x).1 (fStep ta tb s x).2 = 1 := by
 obtain ⟨b1, b2, b3, b4, b5, c1, c2, c3, c4⟩ := f_bd ha ha' hb hb' h h0
 obtain ⟨e1, e2, e3⟩ := UV_eq b4
 have hp : pos2 (hl ta tb x) := ⟨Nat.le_trans b1 b2, b1⟩
 have hq : pos2 (fU ta tb x, fV ta tb x) := ⟨c1, c3⟩
 unfold fStep
 by_cases c : fB ta tb s x = true
 ·
  rw [if_pos c]
  have c' : s.1 * fV ta tb x < fU ta tb x * s.2 := of_decide_eq_true c
  exact ⟨hm.take hq (le2_trans (g := (fU ta tb x, fV ta tb x)) hq.2 (Nat.le_of_lt c') e2) e1 e2 hp, e3⟩
 ·
  rw [if_neg c]
  have c' : ¬ s.1 * fV ta tb x < fU ta tb x * s.2 := fun h => c (decide_eq_true h)
  exact ⟨hm.keep (le2_trans (g := (fU ta tb x, fV ta tb x)) hq.2 e1 (Nat.le_of_not_lt c')), hc⟩
theorem fold_mx {ta tb : Nat} (ha : 1 ≤ ta) (ha' : ta ≤ 1073741824) (hb : 1 ≤ tb) (hb' : tb ≤ 1073741824) : ∀ (L : List (Int × Int)) (s : Nat × Nat) (F : List (Nat × Nat)), (∀ x ∈ L, pOk x ∧ pNo x) → Mx s F → Nat.gcd s.1 s.2 = 1 →
  Mx (L.foldl (fStep ta tb) s) (F ++ L.map (hl ta tb)) ∧ Nat.gcd (L.foldl (fStep ta tb) s).1 (L.foldl (fStep ta tb) s).2 = 1
 | [], s, F, _, h, hc => by rw [List.map_nil, List.append_nil]; exact ⟨h, hc⟩
 | x :: L, s, F, h0, h, hc => by
  obtain ⟨h1, h2⟩ := fStep_mx ha ha' hb hb' (h0 x (by simp)).1 (h0 x (by simp)).2 h hc
  have := fold_mx ha ha' hb hb' L _ _ (fun y hy => h0 y (by simp [hy])) h1 h2
  rw [List.foldl_cons, List.map_cons]
  rw [List.append_assoc] at this
  exact this
theorem fFold_mx {ta tb : Nat} (ha : 1 ≤ ta) (ha' : ta ≤ 1073741824) (hb : 1 ≤ tb) (hb' : tb ≤ 1073741824) {L : List (Int × Int)} (h0 : ∀ x ∈ L, pOk x ∧ pNo x) : Mx (fFold ta tb L) (L.map (hl ta tb)) ∧ Nat.gcd (fFold ta tb L).1 (fFold ta tb L).2 = 1 := by
 have := fold_mx ha ha' hb hb' L (1, 1) [] h0 Mx.start rfl
 rw [List.nil_append] at this
 exact this
def two (ta tb : Nat) (x : Int × Int) : List (Nat × Nat) := [uv ta tb x, (uv ta tb x).swap]
theorem uv_bd {ta tb : Nat} (ha : 1 ≤ ta) (ha' : ta ≤ 1073741824) (hb : 1 ≤ tb) (hb' : tb ≤ 1073741824) {x : Int × Int} (h : pOk x) (h0 : pNo x) : sOk (uv ta tb x) := by
 obtain ⟨h1, h2, h3, h4⟩ := h
 obtain ⟨n1, n2⟩ := h0
 have m1 := p_mul (a := x.1.toNat) (t := tb) (by omega) (by omega) hb hb'
 have m2 := p_mul (a := x.2.toNat) (t := ta) (by omega) (by omega) ha ha'
 exact ⟨m1.1, m1.2, m2.1, m2.2⟩
theorem hl_uv (ta tb : Nat) (x : Int × Int) : hl ta tb x = uv ta tb x ∨ hl ta tb x = (uv ta tb x).swap := by
 unfold hl uv fHi fLo
 rcases Nat.le_total (x.1.toNat * tb) (x.2.toNat * ta) with c | c
 ·
  right; rw [Nat.max_eq_right c, Nat.min_eq_left c]; rfl
 ·
  left; rw [Nat.max_eq_left c, Nat.min_eq_right c]
theorem uv_hl (ta tb : Nat) (x : Int × Int) : le2 (uv ta tb x) (hl ta tb x) ∧ le2 (uv ta tb x).swap (hl ta tb x) := by
 unfold le2 hl uv fHi fLo Prod.swap
 dsimp only
 generalize x.1.toNat * tb = u
 generalize x.2.toNat * ta = v
 rcases Nat.le_total u v with c | c
 ·
  rw [Nat.max_eq_right c, Nat.min_eq_left c]
  exact ⟨Nat.mul_le_mul c c, Nat.le_refl _⟩
 ·
  rw [Nat.max_eq_left c, Nat.min_eq_right c]
  exact ⟨Nat.le_refl _, Nat.mul_le_mul c c⟩
end Go.Proofs.Ytkemhfhmlcljjaa.DistPure
end
section
namespace Go.Proofs.Ytkemhfhmlcljjaa.DistPure
open Go.RowKit Go.Proofs.Ytkemhfhmlcljjaa.PR Go.Proofs.YtkemhfhmlcljjaaW.PrintWords Go.Proofs.YtkemhfhmlcljjaaW.PrintLast Go.Proofs.YtkemhfhmlcljjaaW.PrintMore Go.Proofs.YtkemhfhmlcljjaaW.EvKit
set_option linter.unusedVariables false
set_option linter.unusedSimpArgs false
end Go.Proofs.Ytkemhfhmlcljjaa.DistPure
end
section
namespace Go.Proofs.Ytkemhfhmlcljjaa.PR
set_option maxRecDepth 100000
open Go.RowKit Go.Proofs.YtkemhfhmlcljjaaW.PrintWords Go.Proofs.YtkemhfhmlcljjaaW.PrintLast Go.Proofs.YtkemhfhmlcljjaaW.PrintMore
open Go.Proofs.YtkemhfhmlcljjaaW.EvKit
set_option linter.unusedVariables false
noncomputable def dist_Far.F (l0 : List S32) (l1 : List S32) : Option (Int × Int × Int) := lim (fun k => dist_Far.f k l0 l1)
theorem dist_Far.F_is (l0 : List S32) (l1 : List S32) : LimIs (fun k => dist_Far.f k l0 l1) (dist_Far.F l0 l1) := ⟨fun k => dist_Far.mono l0 l1 k, rfl⟩
theorem dist_Far.F_eq (l0 : List S32) (l1 : List S32) : dist_Far.F l0 l1 = (dist_wrongs.F [l0, l1]).bind fun e => if e = 0 then ((dist_total.F l0).bind fun ta => (dist_total.F l1).bind fun tb => if dGuard l0 l1 ta tb = true then some (farVal ta tb (pairsL l0 l1)) else none) else some (0, 0, e) := by
 refine LimIs.out (?_ : LimIs (fun k => (dist_wrongs.f k [l0, l1]).bind fun e => if e = 0 then ((dist_total.f k l0).bind fun ta => (dist_total.f k l1).bind fun tb => if dGuard l0 l1 ta tb = true then some (farVal ta tb (pairsL l0 l1)) else none) else some (0, 0, e)) _)
 repeat' first
  | (with_reducible exact dist_wrongs.F_is _)
  | (with_reducible exact dist_total.F_is _)
  | (with_reducible exact LimIs.const _)
  | (with_reducible refine LimIs.ite ?_ ?_)
  | (with_reducible refine LimIs.bind ?_ (fun _ => ?_))
  | exact dist_wrongs.F_is _
  | exact dist_total.F_is _
  | exact LimIs.const _
  | refine LimIs.ite ?_ ?_
  | refine LimIs.bind ?_ (fun _ => ?_)
end Go.Proofs.Ytkemhfhmlcljjaa.PR
end
section
namespace Go.Proofs.Ytkemhfhmlcljjaa.DistPure
set_option linter.unusedVariables false
set_option linter.unusedSimpArgs false
open Go.RowKit Go.Proofs.Ytkemhfhmlcljjaa.PR Go.Proofs.YtkemhfhmlcljjaaW.PrintWords Go.Proofs.YtkemhfhmlcljjaaW.PrintLast Go.Proofs.YtkemhfhmlcljjaaW.PrintMore Go.Proofs.YtkemhfhmlcljjaaW.EvKit
structure RD (d : List S32) : Prop where
 bd : Bd d
 wr : wrongP d = 0
theorem RD.right {d : List S32} (h : RD d) : Right d := right_of h.wr
theorem RD.pw {d : List S32} (h : RD d) : ∀ p ∈ d, 0 < p.f1 := (right_more h.wr).1
theorem RD.nn {d : List S32} (h : RD d) : ∀ p ∈ d, 0 ≤ p.f1 := fun p hp => Int.le_of_lt (h.pw p hp)
theorem RD.tD {d : List S32} (h : RD d) : dist_total.F d = some (totOf d) := totF d h.bd.len h.nn (by have := h.right.few; omega)
theorem RD.wbd {d : List S32} (h : RD d) (o : List Int) : 0 ≤ wOf d o ∧ wOf d o ≤ 1073741824 := by
 have := wOf_le h.nn o
 have := h.right.few
 omega
structure Two (a b : List S32) : Prop where
 a : RD a
 b : RD b
theorem Two.ok {a b : List S32} (h : Two a b) (o : List Int) : pOk (pw a b o) := by
 have h1 := h.a.wbd o
 have h2 := h.b.wbd o
 exact ⟨h1.1, h1.2, h2.1, h2.2⟩
theorem Two.t {a b : List S32} (h : Two a b) : ∃ ta tb : Nat, totOf a = (ta : Int) ∧ totOf b = (tb : Int) ∧ 1 ≤ ta ∧ ta ≤ 1073741824 ∧ 1 ≤ tb ∧ tb ≤ 1073741824 := by
 have h1 := h.a.right
 have h2 := h.b.right
 refine ⟨(totOf a).toNat, (totOf b).toNat, ?_⟩
 have := h1.pos; have := h1.few; have := h2.pos; have := h2.few
 omega
theorem Two.perm {a b : List S32} (h : Two a b) : (pairsL a b).Perm ((outsL a b).map (pw a b)) := pairs_perm' h.a.right.st h.b.right.st h.a.pw
theorem Two.pok {a b : List S32} (h : Two a b) : ∀ x ∈ pairsL a b, pOk x := fun x hx => by
 obtain ⟨o, _, rfl⟩ := List.mem_map.1 (h.perm.mem_iff.1 hx)
 exact h.ok o
def farP (a b : List S32) : Int × Int × Int := if wrongP a = 0 then (if wrongP b = 0 then farVal (totOf a) (totOf b) (pairsL a b) else (0, 0, wrongP b)) else (0, 0, wrongP a)
def wrongs2 (a b : List S32) : Int := if wrongP a = 0 then wrongP b else wrongP a
theorem wrongsF (a b : List S32) (ha : Bd a) (hb : Bd b) : dist_wrongs.F [a, b] = some (wrongs2 a b) := by
 unfold wrongs2
 rw [dist_wrongs.F_eq]
 have e0 : rd_L3 [a, b] 0 = a := rfl
 have e1 : rd_L3 [a, b] 1 = b := rfl
 have l2 : (([a, b].length : Nat) : Int) = 2 := rfl
 have x1 : wrap64 ((0 : Int) + 1) = 1 := by decide +kernel
 have x2 : wrap64 ((1 : Int) + 1) = 2 := by decide +kernel
 rw [l2, dist_wrongs.L0_eq, l2, if_pos (by decide), if_pos (by decide), if_pos (by decide), e0, wrongF a ha, Option.bind_some, x1]
 by_cases c : wrongP a = 0
 ·
  rw [if_pos c, if_pos c, dist_wrongs.L0_eq, l2, if_pos (by decide), if_pos (by decide), if_pos (by decide), e1, wrongF b hb, Option.bind_some, x2]
  by_cases c2 : wrongP b = 0
  ·
   rw [if_pos c2, dist_wrongs.L0_eq, if_neg (by decide), c2]
  ·
   rw [if_neg c2]
 ·
  rw [if_neg c, if_neg c]
theorem dSizeB {a : List S32} (h : Bd a) : dSize a = true := by
 have h1 := h.len
 unfold dSize
 rw [Bool.and_eq_true, decide_eq_true_eq, List.all_eq_true]
 exact ⟨by omega, fun p hp => by have := h.out p hp; exact decide_eq_true (by omega)⟩
theorem tIn_of {t : Int} (h : 1 ≤ t) (h2 : t ≤ 1073741824) : tIn t = true := by unfold tIn; simp [h, h2]
theorem xIn_of {x : Int × Int} (h : pOk x) : xIn x = true := by obtain ⟨h1, h2, h3, h4⟩ := h; unfold xIn; simp [h1, h2, h3, h4]
theorem farF (a b : List S32) (ha : Bd a) (hb : Bd b) : dist_Far.F a b = some (farP a b) := by
 rw [dist_Far.F_eq, wrongsF a b ha hb, Option.bind_some]
 unfold wrongs2 farP
 by_cases c : wrongP a = 0
 ·
  rw [if_pos c, if_pos c]
  by_cases c2 : wrongP b = 0
  ·
   have h : Two a b := ⟨⟨ha, c⟩, ⟨hb, c2⟩⟩
   have h1 := h.a.right
   have h2 := h.b.right
   have := h1.pos; have := h1.few; have := h2.pos; have := h2.few
   rw [if_pos c2, if_pos c2, h.a.tD, Option.bind_some, h.b.tD, Option.bind_some]
   rw [if_pos (by
    unfold dGuard
    rw [dSizeB ha, dSizeB hb, tIn_of (by omega) (by omega), tIn_of (by omega) (by omega)]
    simpa using fun x y hx => xIn_of (h.pok (x, y) hx))]
  ·
   rw [if_neg c2, if_neg c2]
 ·
  rw [if_neg c, if_neg c, if_neg c]
end Go.Proofs.Ytkemhfhmlcljjaa.DistPure
end
section
namespace Go.Proofs.Ytkemhfhmlcljjaa.DistPure
set_option linter.unusedVariables false
set_option linter.unusedSimpArgs false
open Go.RowKit Go.Proofs.Ytkemhfhmlcljjaa.PR Go.Proofs.YtkemhfhmlcljjaaW.PrintWords Go.Proofs.YtkemhfhmlcljjaaW.PrintLast Go.Proofs.YtkemhfhmlcljjaaW.PrintMore Go.Proofs.YtkemhfhmlcljjaaW.EvKit
structure FarOK (a b : List S32) (ta tb : Nat) (s : Nat × Nat) : Prop where
 two : Two a b
 ea : totOf a = (ta : Int)
 eb : totOf b = (tb : Int)
 a1 : 1 ≤ ta
 b1 : 1 ≤ tb
 a2 : ta ≤ 1073741824
 b2 : tb ≤ 1073741824
 no : ∀ x ∈ pairsL a b, pNo x
 eq : fFold ta tb (pairsL a b) = s
 mx : Mx s ((pairsL a b).map (hl ta tb))
 co : Nat.gcd s.1 s.2 = 1
theorem farOut_ok {s : Nat × Nat} (h : (farOut s).2.2 = 0) : farOut s = ((s.1 : Int), (s.2 : Int), 0) ∧ s.1 ≤ 1073741824 ∧ s.2 ≤ 1073741824 := by
 unfold farOut at *
 by_cases c : s.1 > 1073741824 ∨ s.2 > 1073741824
 ·
  rw [if_pos c] at h; cases h
 ·
  rw [if_neg c]; exact ⟨rfl, by omega, by omega⟩
theorem far_mk {a b : List S32} (ha : Bd a) (hb : Bd b) (c : wrongP a = 0) (c2 : wrongP b = 0) (hn : ∀ x ∈ pairsL a b, pNo x) : ∃ ta tb s, FarOK a b ta tb s ∧ farP a b = farOut s := by
 have h : Two a b := ⟨⟨ha, c⟩, ⟨hb, c2⟩⟩
 obtain ⟨ta, tb, ea, eb, a1, a2, b1, b2⟩ := h.t
 obtain ⟨m, co⟩ := fFold_mx a1 a2 b1 b2 (L := pairsL a b) (fun x hx => ⟨h.pok x hx, hn x hx⟩)
 refine ⟨ta, tb, _, ⟨h, ea, eb, a1, b1, a2, b2, hn, rfl, m, co⟩, ?_⟩
 unfold farP
 rw [if_pos c, if_pos c2, farVal_yes hn, ea, eb]
 rfl
theorem far_yes {a b : List S32} (ha : Bd a) (hb : Bd b) (h : (farP a b).2.2 = 0) : ∃ ta tb s, FarOK a b ta tb s ∧ farP a b = ((s.1 : Int), (s.2 : Int), 0) ∧ s.1 ≤ 1073741824 ∧ s.2 ≤ 1073741824 := by
 by_cases c : wrongP a = 0
 ·
  by_cases c2 : wrongP b = 0
  ·
   by_cases hn : ∀ x ∈ pairsL a b, pNo x
   ·
    obtain ⟨ta, tb, s, h1, h2⟩ := far_mk ha hb c c2 hn
    rw [h2] at h ⊢
    obtain ⟨h3, h4, h5⟩ := farOut_ok h
    exact ⟨ta, tb, s, h1, h3, h4, h5⟩
   ·
    have hn' : ∃ x ∈ pairsL a b, ¬ pNo x := by simpa using hn
    unfold farP at h
    rw [if_pos c, if_pos c2, farVal_no hn'] at h
    cases h
  ·
   unfold farP at h
   rw [if_pos c, if_neg c2] at h
   exact absurd h c2
 ·
  unfold farP at h
  rw [if_neg c] at h
  exact absurd h c
theorem in_outs {a b : List S32} (o : List Int) (h : 0 < wOf a o ∨ 0 < wOf b o) : o ∈ outsL a b := by
 unfold outsL
 by_cases c : 0 < wOf a o
 ·
  obtain ⟨q, hq, e⟩ := wOf_mem c
  exact List.mem_append.2 (.inl (List.mem_map.2 ⟨q, hq, e⟩))
 ·
  have hb := h.resolve_left c
  obtain ⟨q, hq, e⟩ := wOf_mem hb
  by_cases c2 : wOf a o = 0
  ·
   exact List.mem_append.2 (.inr (List.mem_map.2 ⟨q, List.mem_filter.2 ⟨hq, by rw [e]; exact decide_eq_true c2⟩, e⟩))
  ·
   obtain ⟨p, hp, e2⟩ : ∃ p ∈ a, p.f0 = o := by
    refine Classical.byContradiction (fun hx => c2 (wOf_none a o (fun q hq e => hx ⟨q, hq, e⟩)))
   exact List.mem_append.2 (.inl (List.mem_map.2 ⟨p, hp, e2⟩))
theorem FarOK.at {a b : List S32} {ta tb : Nat} {s : Nat × Nat} (h : FarOK a b ta tb s) (o : List Int) (ho : 0 < wOf a o ∨ 0 < wOf b o) :
  0 < wOf a o ∧ 0 < wOf b o ∧ le2 (uv ta tb (pw a b o)) s ∧ le2 (uv ta tb (pw a b o)).swap s ∧ pos2 (uv ta tb (pw a b o)) := by
 have hm : pw a b o ∈ pairsL a b := h.two.perm.mem_iff.2 (List.mem_map.2 ⟨o, in_outs o ho, rfl⟩)
 have hn := h.no _ hm
 have hk := h.two.ok o
 have hu := uv_bd h.a1 h.a2 h.b1 h.b2 hk hn
 have hp : pos2 (uv ta tb (pw a b o)) := ⟨hu.1, hu.2.2.1⟩
 have hh : 1 ≤ (hl ta tb (pw a b o)).2 := by
  rcases hl_uv ta tb (pw a b o) with e | e
  ·
   rw [e]; exact hp.2
  ·
   rw [e]; exact hp.1
 have hub := h.mx.ub _ (List.mem_map.2 ⟨_, hm, rfl⟩)
 have h1 := h.two.a.wbd o
 have h2 := h.two.b.wbd o
 have n1 : ¬ wOf a o = 0 := hn.1
 have n2 : ¬ wOf b o = 0 := hn.2
 exact ⟨by omega, by omega, le2_trans hh (uv_hl ta tb _).1 hub, le2_trans hh (uv_hl ta tb _).2 hub, hp⟩
theorem FarOK.some {a b : List S32} {ta tb : Nat} {s : Nat × Nat} (h : FarOK a b ta tb s) : le2 s (1, 1) ∨ ∃ o, 0 < wOf a o ∧ 0 < wOf b o ∧ (le2 s (uv ta tb (pw a b o)) ∨ le2 s (uv ta tb (pw a b o)).swap) := by
 rcases h.mx.got with c | ⟨f, hf, c⟩
 ·
  exact .inl c
 ·
  obtain ⟨x, hx, rfl⟩ := List.mem_map.1 hf
  obtain ⟨o, ho, rfl⟩ := List.mem_map.1 (h.two.perm.mem_iff.1 hx)
  have hn := h.no _ hx
  have h1 := h.two.a.wbd o
  have h2 := h.two.b.wbd o
  have n1 : ¬ wOf a o = 0 := hn.1
  have n2 : ¬ wOf b o = 0 := hn.2
  refine .inr ⟨o, by omega, by omega, ?_⟩
  rcases hl_uv ta tb (pw a b o) with e | e
  ·
   rw [e] at c; exact .inl c
  ·
   rw [e] at c; exact .inr c
theorem strict_nodup {d : List S32} (h : Strict d) : (d.map (·.f0)).Nodup := by
 unfold List.Nodup
 rw [List.pairwise_map]
 exact List.Pairwise.imp (fun h => lt_ne h) h
end Go.Proofs.Ytkemhfhmlcljjaa.DistPure
end
section
namespace Go.Proofs.Ytkemhfhmlcljjaa.DistPure
set_option linter.unusedVariables false
set_option linter.unusedSimpArgs false
open Go.RowKit Go.Proofs.Ytkemhfhmlcljjaa.PR Go.Proofs.YtkemhfhmlcljjaaW.PrintWords Go.Proofs.YtkemhfhmlcljjaaW.PrintLast Go.Proofs.YtkemhfhmlcljjaaW.PrintMore Go.Proofs.YtkemhfhmlcljjaaW.EvKit
def thenP : List S45 → List Int → List S32
 | [], o => [⟨o, 1⟩]
 | p :: l, o => if p.f0 = o then p.f1 else thenP l o
structure FBd (l : List S45) : Prop where
 len : l.length ≤ 1048576
 frm : ∀ p ∈ l, p.f0.length ≤ 1048576
 bd : ∀ p ∈ l, Bd p.f1
theorem thenP_bd : ∀ (l : List S45) (o : List Int), (∀ p ∈ l, Bd p.f1) → o.length ≤ 1048576 → Bd (thenP l o)
 | [], o, _, ho => ⟨by simp [thenP], fun p hp => by rw [thenP] at hp; rw [List.mem_singleton.1 hp]; exact ho⟩
 | p :: l, o, h, ho => by
  rw [thenP]
  split
  ·
   exact h p (by simp)
  ·
   exact thenP_bd l o (fun q hq => h q (by simp [hq])) ho
theorem rd45At {xs : List S45} {i : Nat} (h : i < xs.length) : rd_T45 xs (i : Int) = xs[i] := by
 unfold rd_T45
 rw [Int.toNat_natCast, List.getD_eq_getElem?_getD, List.getElem?_eq_getElem h]; rfl
theorem then_loop (l : List S45) (hl : FBd l) (o : List Int) : ∀ (m i : Nat), i + m = l.length →
  plain_Then.L0 o l (l.length : Int) (i : Int) = some (thenP (l.drop i) o) := by
 have hlen := hl.len
 intro m
 induction m with
 | zero =>
  intro i hi
  rw [plain_Then.L0_eq, if_neg (by omega), List.drop_of_length_le (by omega)]; rfl
 | succ m ih =>
  intro i hi
  have hx : i < l.length := by omega
  have hf := hl.frm _ (List.getElem_mem hx)
  rw [plain_Then.L0_eq, if_pos (by omega), if_pos (by omega), if_pos (by omega), rd45At hx, eqF _ _ hf, Option.bind_some, List.drop_eq_getElem_cons hx, thenP]
  by_cases c : l[i].f0 = o
  ·
   rw [decide_eq_true c, if_pos rfl, if_pos c]
  ·
   rw [decide_eq_false c, if_neg (by decide), if_neg c, w1 (by omega)]
   exact ih (i + 1) (by omega)
theorem thenF (l : List S45) (hl : FBd l) (o : List Int) : plain_Then.F l o = some (thenP l o) := by
 have h := then_loop l hl o l.length 0 (by omega)
 rw [plain_Then.F_eq]
 exact h
def allP (fs : List S45) : List S32 → Nat → Int × Nat
 | [], a => (0, a)
 | p :: d, a => if wrongP (thenP fs p.f0) = 0 then (if a / Nat.gcd a (totOf (thenP fs p.f0)).toNat * (totOf (thenP fs p.f0)).toNat > 1073741824 then (4, a) else allP fs d (a / Nat.gcd a (totOf (thenP fs p.f0)).toNat * (totOf (thenP fs p.f0)).toNat)) else (wrongP (thenP fs p.f0), a)
def rowP (fs : List S45) (a : Nat) (p : S32) : List S32 := (thenP fs p.f0).map (fun q => (⟨q.f0, p.f1 * ((a : Int) / totOf (thenP fs p.f0)) * q.f1⟩ : S32))
def bindL (fs : List S45) (a : Nat) (d : List S32) : List S32 := d.flatMap (rowP fs a)
theorem allP_dvd (fs : List S45) : ∀ (d : List S32) (a : Nat), (allP fs d a).1 = 0 → a ∣ (allP fs d a).2 ∧ ∀ p ∈ d, wrongP (thenP fs p.f0) = 0 ∧ (totOf (thenP fs p.f0)).toNat ∣ (allP fs d a).2
 | [], a, _ => ⟨Nat.dvd_refl a, fun p hp => by cases hp⟩
 | p :: d, a, h => by
  rw [allP] at h ⊢
  by_cases c : wrongP (thenP fs p.f0) = 0
  ·
   rw [if_pos c] at h ⊢
   generalize hn : (totOf (thenP fs p.f0)).toNat = n at *
   by_cases c2 : a / Nat.gcd a n * n > 1073741824
   ·
    rw [if_pos c2] at h; cases h
   ·
    rw [if_neg c2] at h ⊢
    obtain ⟨h1, h2⟩ := allP_dvd fs d _ h
    have e : a / Nat.gcd a n * n = Nat.lcm a n := Nat.div_mul_right_comm (Nat.gcd_dvd_left a n) n
    rw [e] at h1 h2 ⊢
    refine ⟨Nat.dvd_trans (Nat.dvd_lcm_left a n) h1, fun q hq => ?_⟩
    rcases List.mem_cons.1 hq with e2 | e2
    ·
     rw [e2, hn]
     exact ⟨c, Nat.dvd_trans (Nat.dvd_lcm_right a n) h1⟩
    ·
     exact h2 q e2
  ·
   rw [if_neg c] at h; exact absurd h c
theorem rdL3At {xs : List (List S32)} {i : Nat} (h : i < xs.length) : rd_L3 xs (i : Int) = xs[i] := by
 unfold rd_L3
 rw [Int.toNat_natCast, List.getD_eq_getElem?_getD, List.getElem?_eq_getElem h]; rfl
theorem dgcdN (x y : Nat) : dist_gcd.F (x : Int) (y : Int) = some ((Nat.gcd y x : Nat) : Int) := ((dist_gcd.F_is _ _).iff _).2 (gcd_is x y)
theorem tidyF2 (l : List S32) (hl : l.length ≤ 16777216) (h : l.all okP = true) : dist_tidy.F l = some (tDone (tMerge (sortP l))) := by
 rw [dist_tidy.F_eq, if_pos]
 unfold tGuard
 have := tot_bd (all_ok h)
 simp only [Bool.and_eq_true, decide_eq_true_eq, List.all_eq_true]
 exact ⟨⟨by omega, fun p hp => (all_ok h p hp).1⟩, by omega⟩
theorem right_tot {d : List S32} (hb : Bd d) (h : wrongP d = 0) : ∃ n : Nat, totOf d = (n : Int) ∧ 1 ≤ n ∧ n ≤ 1073741824 ∧ dist_total.F d = some (n : Int) := by
 have hr := right_of h
 have h1 := hr.pos
 have h2 := hr.few
 refine ⟨(totOf d).toNat, by omega, by omega, by omega, ?_⟩
 rw [totF d hb.len (fun p hp => (all_ok hr.ok p hp).1) (by omega)]
 congr 1
 omega
theorem b1F (fs : List S45) (hf : FBd fs) (o : List Int) : plain_Bind_1.F o fs = some (thenP fs o, 0) := by
 rw [plain_Bind_1.F_eq, thenF fs hf o, Option.bind_some]
def thenL (fs : List S45) (d : List S32) : List (List S32) := d.map (fun p => thenP fs p.f0)
theorem b_row (T : List (List S32)) (a n f1 : Int) (d : List S32) (i : Int) (f0 : List Int) (e : List S32) (he : e.length ≤ 1048576) (ho : ∀ q ∈ e, q.f0.length ≤ 1048576)
  (h0 : 0 ≤ f1 * n ∧ f1 * n ≤ 4611686018427387904) (h1 : ∀ q ∈ e, 0 ≤ f1 * n * q.f1 ∧ f1 * n * q.f1 ≤ 4611686018427387904) :
  ∀ (m j : Nat) (acc : List S32), j + m = e.length → acc.length + m ≤ 1000000000 →
  dist_Bind.L2 T a acc n d (d.length : Int) i e (e.length : Int) (j : Int) f0 f1 = dist_Bind.L1 T a (acc ++ (e.drop j).map (fun q => (⟨q.f0, f1 * n * q.f1⟩ : S32))) d (d.length : Int) (wrap64 (i + 1)) := by
 intro m
 induction m with
 | zero =>
  intro j acc hj _
  rw [dist_Bind.L2_eq, if_neg (by omega), List.drop_of_length_le (by omega), List.map_nil, List.append_nil]
 | succ m ih =>
  intro j acc hj hm
  have hx : j < e.length := by omega
  have h2 := h1 _ (List.getElem_mem hx)
  rw [dist_Bind.L2_eq, if_pos (by omega), if_pos (by omega), if_pos (by omega), rd32At hx, cloneF _ (ho _ (List.getElem_mem hx)), Option.bind_some, if_pos (by omega), wrap64_of (x := f1 * n) (by omega) (by omega), wrap64_of (x := f1 * n * e[j].f1) (by omega) (by omega), w1 (by omega), ih (j + 1) _ (by omega) (by rw [List.length_append]; simp; omega), List.drop_eq_getElem_cons hx, List.map_cons, List.append_assoc, List.singleton_append]
structure AOK (fs : List S45) (d : List S32) (a : Nat) : Prop where
 rd : RD d
 fb : FBd fs
 r : ∀ p ∈ d, wrongP (thenP fs p.f0) = 0 ∧ (totOf (thenP fs p.f0)).toNat ∣ a
 p : 1 ≤ a
 t : (a : Int) * totOf d ≤ 1073741824
theorem bd_right {d : List S32} (h : wrongP d = 0) : Bd d := by
 have hr := right_of h
 have hm := hr.much
 refine ⟨by omega, fun p hp => ?_⟩
 have h1 := (okP_iff.1 (List.all_eq_true.1 hr.ok p hp)).1
 unfold smallB at h1
 rw [Bool.and_eq_true, decide_eq_true_eq] at h1
 omega
theorem AOK.row {fs : List S45} {d : List S32} {a : Nat} (h : AOK fs d a) {p : S32} (hp : p ∈ d) : ∃ n m : Nat, totOf (thenP fs p.f0) = (n : Int) ∧ 1 ≤ n ∧ a = m * n ∧ (a : Int) / totOf (thenP fs p.f0) = (m : Int) ∧ 0 ≤ p.f1 * (m : Int) ∧ p.f1 * (m : Int) ≤ 1073741824 ∧ ∀ q ∈ thenP fs p.f0, 0 ≤ p.f1 * (m : Int) * q.f1 ∧ p.f1 * (m : Int) * q.f1 ≤ 1073741824 := by
 obtain ⟨hw, hdv⟩ := h.r p hp
 obtain ⟨n, e, n1, n2, _⟩ := right_tot (bd_right hw) hw
 rw [e, Int.toNat_natCast] at hdv
 obtain ⟨m, hm⟩ := hdv
 have hp0 := h.rd.nn p hp
 have hp1 := one_le h.rd.nn hp
 have ht := h.t
 have hmn : a = m * n := by rw [hm, Nat.mul_comm]
 have k1 : p.f1 * (a : Int) ≤ 1073741824 := by
  have : p.f1 * (a : Int) ≤ totOf d * (a : Int) := Int.mul_le_mul_of_nonneg_right hp1 (by omega)
  rw [Int.mul_comm (totOf d)] at this
  omega
 have k2 : ∀ x : Int, 0 ≤ x → x ≤ (n : Int) → 0 ≤ p.f1 * (m : Int) * x ∧ p.f1 * (m : Int) * x ≤ 1073741824 := fun x x0 x1 => by
  have e1 : p.f1 * (m : Int) * x ≤ p.f1 * (m : Int) * (n : Int) := Int.mul_le_mul_of_nonneg_left x1 (Int.mul_nonneg hp0 (by omega))
  have e2 : p.f1 * (m : Int) * (n : Int) = p.f1 * (a : Int) := by rw [hmn, Int.natCast_mul, Int.mul_assoc]
  exact ⟨Int.mul_nonneg (Int.mul_nonneg hp0 (by omega)) x0, by omega⟩
 refine ⟨n, m, e, n1, hmn, ?_, ?_, ?_, fun q hq => ?_⟩
 ·
  rw [e, hm, Int.natCast_mul, Int.mul_ediv_cancel_left _ (by omega)]
 ·
  have := (k2 1 (by omega) (by omega)).1
  omega
 ·
  have := (k2 1 (by omega) (by omega)).2
  omega
 ·
  have hr := right_of hw
  have q0 := (all_ok hr.ok q hq).1
  have q1 := one_le (fun p hp => (all_ok hr.ok p hp).1) hq
  exact k2 q.f1 q0 (by omega)
theorem b_rows {fs : List S45} {d : List S32} {a : Nat} (h : AOK fs d a) : ∀ (m i : Nat) (acc : List S32), i + m = d.length → acc.length + 4096 * m ≤ 16777216 →
  dist_Bind.L1 (thenL fs d) (a : Int) acc d (d.length : Int) (i : Int) = (dist_tidy.F (acc ++ (d.drop i).flatMap (rowP fs a))).bind (fun bt192 => some (bt192.1, bt192.2)) := by
 intro m
 have hlen := h.rd.right.much
 have htl : (thenL fs d).length = d.length := by unfold thenL; rw [List.length_map]
 induction m with
 | zero =>
  intro i acc hi _
  rw [dist_Bind.L1_eq, if_neg (by omega), List.drop_of_length_le (by omega), List.flatMap_nil, List.append_nil]
 | succ m ih =>
  intro i acc hi hm
  have hx : i < d.length := by omega
  have hp : d[i] ∈ d := List.getElem_mem hx
  obtain ⟨n, k, e, n1, ha, hq, h0, h1, h2⟩ := h.row hp
  have hw := (h.r _ hp).1
  obtain ⟨n', e', _, _, htot⟩ := right_tot (bd_right hw) hw
  have hn : n' = n := by omega
  subst hn
  have hmuch := (right_of hw).much
  have hT : rd_L3 (thenL fs d) (i : Int) = thenP fs d[i].f0 := by
   rw [rdL3At (by omega)]
   unfold thenL
   rw [List.getElem_map]
  have hdiv : wrap64 (Int.tdiv (a : Int) (n' : Int)) = (k : Int) := by
   rw [← Int.ofNat_tdiv, ha, Nat.mul_div_cancel _ (by omega), wrap64_of (by omega) (by
    have hk : k ≤ a := by rw [ha]; exact Nat.le_mul_of_pos_right k (by omega)
    have ht := h.t
    have hd := h.rd.right.pos
    have : (a : Int) * 1 ≤ (a : Int) * totOf d := Int.mul_le_mul_of_nonneg_left (by omega) (by omega)
    omega)]
  have hrow : rowP fs a d[i] = (thenP fs d[i].f0).map (fun q => (⟨q.f0, d[i].f1 * (k : Int) * q.f1⟩ : S32)) := by
   unfold rowP
   rw [hq]
  have hrl : (rowP fs a d[i]).length = (thenP fs d[i].f0).length := by rw [hrow, List.length_map]
  rw [dist_Bind.L1_eq, if_pos (by omega), if_pos (by omega), if_pos (by omega), if_pos (by omega), hT, htot, Option.bind_some, if_neg (by omega), hdiv, rd32At hx,
   show (0 : Int) = ((0 : Nat) : Int) from rfl, b_row _ _ _ _ _ _ _ _ (by omega) (bd_right hw).out ⟨h0, by omega⟩ (fun q hq' => ⟨(h2 q hq').1, by have := (h2 q hq').2; omega⟩) _ 0 acc (Nat.zero_add _) (by omega), List.drop_zero, ← hrow, w1 (by omega), ih (i + 1) _ (by omega) (by rw [List.length_append, hrl]; omega), List.drop_eq_getElem_cons hx, List.flatMap_cons, List.append_assoc]
theorem all_step {a n : Nat} (a1 : 1 ≤ a) (a2 : a ≤ 1073741824) (n1 : 1 ≤ n) (n2 : n ≤ 1073741824) : ∃ q : Nat, a / Nat.gcd a n * n = q ∧ 1 ≤ q ∧ q ≤ 1152921504606846976 ∧ wrap64 ((wrap64 (Int.tdiv (a : Int) ((Nat.gcd n a : Nat) : Int))) * (n : Int)) = (q : Int) ∧ ¬ ((Nat.gcd n a : Nat) : Int) = 0 := by
 have hg : 0 < Nat.gcd a n := Nat.gcd_pos_of_pos_left n (by omega)
 have hle : a / Nat.gcd a n ≤ a := Nat.div_le_self _ _
 have hpos : 1 ≤ a / Nat.gcd a n := Nat.div_pos (Nat.le_of_dvd (by omega) (Nat.gcd_dvd_left a n)) hg
 have hmul : a / Nat.gcd a n * n ≤ 1073741824 * 1073741824 := Nat.mul_le_mul (Nat.le_trans hle a2) n2
 have hnew : 1 ≤ a / Nat.gcd a n * n := Nat.mul_pos hpos n1
 refine ⟨a / Nat.gcd a n * n, rfl, hnew, hmul, ?_, ?_⟩
 ·
  rw [← Int.ofNat_tdiv, Nat.gcd_comm n a]
  generalize a / Nat.gcd a n = v at *
  rw [wrap64_of (x := (v : Int)) (by omega) (by omega), ← Int.natCast_mul]
  generalize v * n = u at *
  rw [wrap64_of (by omega) (by omega)]
 ·
  rw [Nat.gcd_comm]
  omega
theorem b_all {fs : List S45} {d : List S32} (hf : FBd fs) (hd : RD d) : ∀ (m i a : Nat), i + m = d.length → 1 ≤ a → a ≤ 1073741824 →
  dist_Bind.L0 d fs (thenL fs (d.take i) ++ List.replicate m []) (a : Int) d (d.length : Int) (i : Int) = if (allP fs (d.drop i) a).1 = 0 then (if ((allP fs (d.drop i) a).2 : Int) * totOf d > 1073741824 then some ([], 4) else dist_Bind.L1 (thenL fs d) ((allP fs (d.drop i) a).2 : Int) [] d (d.length : Int) 0) else some ([], (allP fs (d.drop i) a).1) := by
 intro m
 have hlen := hd.right.much
 have hfew := hd.right.few
 have hpos := hd.right.pos
 induction m with
 | zero =>
  intro i a hi a1 a2
  have hb : (a : Int) * totOf d ≤ 1073741824 * 1073741824 := Int.mul_le_mul (by omega) hfew (by omega) (by omega)
  have hb0 : 0 ≤ (a : Int) * totOf d := Int.mul_nonneg (by omega) (by omega)
  rw [dist_Bind.L0_eq, if_neg (by omega), List.drop_of_length_le (by omega), allP, if_pos rfl, hd.tD, Option.bind_some, wrap64_of (by omega) (by omega), List.take_of_length_le (by omega), List.replicate_zero, List.append_nil]
 | succ m ih =>
  intro i a hi a1 a2
  have hx : i < d.length := by omega
  have hp : d[i] ∈ d := List.getElem_mem hx
  have ho := hd.bd.out _ hp
  have hT : (thenL fs (d.take i)).length = i := by unfold thenL; rw [List.length_map, List.length_take]; omega
  rw [dist_Bind.L0_eq, if_pos (by omega), if_pos (by omega), if_pos (by omega), rd32At hx, cloneF _ ho, Option.bind_some, b1F fs hf, Option.bind_some, if_pos rfl, wrongF _ (thenP_bd fs _ hf.bd ho), Option.bind_some, dist_Bind.J1_eq, List.drop_eq_getElem_cons hx, allP]
  by_cases c : wrongP (thenP fs d[i].f0) = 0
  ·
   obtain ⟨n, e, n1, n2, htot⟩ := right_tot (bd_right c) c
   obtain ⟨v, hv, v1, v2, hw, hg⟩ := all_step a1 a2 n1 n2
   have hset : (thenL fs (d.take i) ++ List.replicate (m + 1) []).set i (thenP fs d[i].f0) = thenL fs (d.take (i + 1)) ++ List.replicate m [] := by
    have e1 : thenL fs (d.take (i + 1)) = thenL fs (d.take i) ++ [thenP fs d[i].f0] := by
     unfold thenL
     rw [List.take_succ_eq_append_getElem hx, List.map_append, List.map_cons, List.map_nil]
    rw [e1, List.set_append_right _ _ (by omega), hT, Nat.sub_self, List.replicate_succ, List.set_cons_zero, List.append_assoc, List.singleton_append]
   rw [if_pos c, if_pos (by omega), if_pos (by rw [List.length_append, List.length_replicate, hT]; omega), htot, Option.bind_some, dgcdN, Option.bind_some, if_neg hg, hw, if_pos c, e]
   simp only [Int.toNat_natCast]
   rw [hv]
   clear hv hw hg
   by_cases c2 : v > 1073741824
   ·
    have k1 : (v : Int) > 1073741824 := by clear hset ih; omega
    rw [if_pos k1, if_pos c2]
    rfl
   ·
    have k1 : ¬ (v : Int) > 1073741824 := by clear hset ih; omega
    have k2 : (i + 1) + m = d.length := by clear hset ih; omega
    have k3 : v ≤ 1073741824 := by clear hset ih; omega
    rw [if_neg k1, if_neg c2, hset, w1 (by clear hset ih; omega), ih (i + 1) v k2 v1 k3]
  ·
   rw [if_neg c, if_neg c, if_neg c]
def bindP (fs : List S45) (d : List S32) : List S32 × Int := if wrongP d = 0 then (if (allP fs d 1).1 = 0 then (if ((allP fs d 1).2 : Int) * totOf d > 1073741824 then ([], 4) else makeP (bindL fs (allP fs d 1).2 d)) else ([], (allP fs d 1).1)) else ([], wrongP d)
theorem allP_pos (fs : List S45) : ∀ (d : List S32) (a : Nat), 1 ≤ a → 1 ≤ (allP fs d a).2
 | [], a, h => h
 | p :: d, a, h => by
  rw [allP]
  by_cases c : wrongP (thenP fs p.f0) = 0
  ·
   rw [if_pos c]
   by_cases c2 : a / Nat.gcd a (totOf (thenP fs p.f0)).toNat * (totOf (thenP fs p.f0)).toNat > 1073741824
   ·
    rw [if_pos c2]; exact h
   ·
    rw [if_neg c2]
    have hr := (right_of c).pos
    refine allP_pos fs d _ (Nat.mul_pos (Nat.div_pos (Nat.le_of_dvd (by omega) (Nat.gcd_dvd_left a _)) (Nat.gcd_pos_of_pos_left _ (by omega))) (by omega))
  ·
   rw [if_neg c]; exact h
theorem aok {fs : List S45} {d : List S32} (hf : FBd fs) (hd : RD d) (h0 : (allP fs d 1).1 = 0) (ht : ¬ ((allP fs d 1).2 : Int) * totOf d > 1073741824) : AOK fs d (allP fs d 1).2 :=
 ⟨hd, hf, fun p hp => (allP_dvd fs d 1 h0).2 p hp, allP_pos fs d 1 (Nat.le_refl _), by omega⟩
theorem AOK.all {fs : List S45} {d : List S32} {a : Nat} (h : AOK fs d a) : (bindL fs a d).all okP = true := by
 rw [List.all_eq_true]
 intro x hx
 unfold bindL at hx
 rw [List.mem_flatMap] at hx
 obtain ⟨p, hp, hx⟩ := hx
 obtain ⟨n, m, e, n1, ha, hq, h0, h1, h2⟩ := h.row hp
 unfold rowP at hx
 rw [hq] at hx
 obtain ⟨q, hq', rfl⟩ := List.mem_map.1 hx
 have hr := right_of (h.r p hp).1
 exact okP_iff.2 ⟨(okP_iff.1 (List.all_eq_true.1 hr.ok q hq')).1, (h2 q hq').1, (h2 q hq').2⟩
theorem rows_len (fs : List S45) (a : Nat) : ∀ (d : List S32), (∀ p ∈ d, wrongP (thenP fs p.f0) = 0) → (d.flatMap (rowP fs a)).length ≤ 4096 * d.length
 | [], _ => by simp
 | p :: d, h => by
  have ih := rows_len fs a d (fun q hq => h q (by simp [hq]))
  have hm := (right_of (h p (by simp))).much
  have e : (rowP fs a p).length = (thenP fs p.f0).length := by unfold rowP; rw [List.length_map]
  rw [List.flatMap_cons, List.length_append, List.length_cons, e]
  omega
theorem bindF (fs : List S45) (hf : FBd fs) (d : List S32) (hd : Bd d) : plain_Bind.F d fs = some (bindP fs d) := by
 rw [plain_Bind.F_eq, dist_Bind.F_eq, wrongF _ hd, Option.bind_some]
 unfold bindP
 by_cases c : wrongP d = 0
 ·
  have hl := hd.len
  have hR : RD d := ⟨hd, c⟩
  have h := b_all hf hR d.length 0 1 (Nat.zero_add _) (Nat.le_refl _) (by omega)
  rw [List.take_zero, List.drop_zero, show thenL fs ([] : List S32) = [] from rfl, List.nil_append] at h
  rw [if_pos c, if_pos (by omega), Int.toNat_natCast, if_pos (by omega), if_pos c]
  refine h.trans ?_
  by_cases c1 : (allP fs d 1).1 = 0
  ·
   rw [if_pos c1, if_pos c1]
   by_cases c2 : ((allP fs d 1).2 : Int) * totOf d > 1073741824
   ·
    rw [if_pos c2, if_pos c2]
   ·
    have A := aok hf hR c1 c2
    have hm := hR.right.much
    have hll := rows_len fs (allP fs d 1).2 d (fun p hp => (A.r p hp).1)
    have h3 := b_rows A d.length 0 [] (Nat.zero_add _) (by simp; omega)
    rw [List.drop_zero, List.nil_append] at h3
    rw [if_neg c2, if_neg c2]
    refine h3.trans ?_
    have h4 := tidyF2 _ (by unfold bindL; omega) A.all
    have h5 := A.all
    unfold bindL at h4 h5
    rw [h4, Option.bind_some]
    unfold makeP bindL
    rw [if_pos h5]
  ·
   rw [if_neg c1, if_neg c1]
 ·
  rw [if_neg c, if_neg c]
end Go.Proofs.Ytkemhfhmlcljjaa.DistPure
end
section
namespace Go.Proofs.Ytkemhfhmlcljjaa.DistPure
set_option linter.unusedVariables false
set_option linter.unusedSimpArgs false
open Go.RowKit Go.Proofs.Ytkemhfhmlcljjaa.PR Go.Proofs.YtkemhfhmlcljjaaW.PrintWords Go.Proofs.YtkemhfhmlcljjaaW.PrintLast Go.Proofs.YtkemhfhmlcljjaaW.PrintMore Go.Proofs.YtkemhfhmlcljjaaW.EvKit
def eS (K : List Int → Rat) : List S32 → Rat
 | [] => 0
 | p :: l => (p.f1 : Rat) * K p.f0 + eS K l
theorem eS_app (K : List Int → Rat) : ∀ a b : List S32, eS K (a ++ b) = eS K a + eS K b
 | [], b => by rw [List.nil_append, eS]; grind
 | p :: a, b => by rw [List.cons_append, eS, eS, eS_app K a b]; grind
theorem eS_one (K : List Int → Rat) (p : S32) : eS K [p] = (p.f1 : Rat) * K p.f0 := by rw [eS, eS]; grind
theorem eS_perm (K : List Int → Rat) {a b : List S32} (h : a.Perm b) : eS K a = eS K b := by
 induction h with
 | nil => rfl
 | cons x _ ih => rw [eS, eS, ih]
 | swap x y l => rw [eS, eS, eS, eS]; grind
 | trans _ _ h1 h2 => rw [h1, h2]
theorem eS_step (K : List Int → Rat) (d : List S32) (p : S32) : eS K (tStep d p) = eS K d + (p.f1 : Rat) * K p.f0 := by
 by_cases h : p.f1 = 0
 ·
  rw [tStep_zero h, h]; grind
 ·
  rcases List.eq_nil_or_concat d with e | ⟨d', q, e⟩
  ·
   rw [e, tStep_nil h, eS_one, eS]; grind
  ·
   rw [List.concat_eq_append] at e
   rw [e]
   by_cases c : q.f0 = p.f0
   ·
    rw [tStep_same h c, eS_app, eS_app, eS_one, eS_one, Rat.intCast_add]
    dsimp only
    rw [c]; grind
   ·
    have e2 : tStep (d' ++ [q]) p = d' ++ [q] ++ [p] := by
     unfold tStep
     rw [if_neg h, List.getLast?_concat]
     dsimp only
     rw [if_neg c]
    rw [e2, eS_app, eS_one]
theorem eS_fold (K : List Int → Rat) : ∀ (l d : List S32), eS K (l.foldl tStep d) = eS K d + eS K l
 | [], d => by rw [List.foldl_nil, eS]; grind
 | p :: l, d => by rw [List.foldl_cons, eS_fold K l, eS_step, eS]; grind
theorem eS_merge (K : List Int → Rat) (l : List S32) : eS K (tMerge (sortP l)) = eS K l := by
 unfold tMerge
 rw [eS_fold, eS_perm K (sortP_perm l), eS]; grind
theorem eS_div (K : List Int → Rat) (g : Nat) (hg : 0 < g) : ∀ (L : List S32), (∀ p ∈ L, 0 < p.f1 ∧ g ∣ p.f1.toNat) → eS K (L.map (fun p => (⟨p.f0, p.f1 / (g : Int)⟩ : S32))) * ((g : Int) : Rat) = eS K L
 | [], _ => by rw [List.map_nil, eS]; grind
 | p :: L, h => by
  obtain ⟨h1, h2⟩ := h p (by simp)
  obtain ⟨m, _, h4, h5⟩ := div_pos' h1 hg h2
  have ih := eS_div K g hg L (fun q hq => h q (by simp [hq]))
  have e : p.f1 = (m : Int) * (g : Int) := by rw [← Int.natCast_mul, Nat.mul_comm, ← h5]; omega
  have e2 : (p.f1 : Rat) = ((m : Int) : Rat) * ((g : Int) : Rat) := by rw [e, Rat.intCast_mul]
  rw [List.map_cons, eS, eS]
  dsimp only
  rw [h4, e2]
  grind
theorem eS_tot : ∀ (l : List S32), eS (fun _ => 1) l = ((totOf l : Int) : Rat)
 | [] => rfl
 | p :: l => by rw [eS, eS_tot l, totOf_cons, Rat.intCast_add]; grind
def eI (o : List Int) (x : List Int) : Rat := if x = o then 1 else 0
theorem eS_w (o : List Int) : ∀ (l : List S32), eS (eI o) l = ((wOf l o : Int) : Rat)
 | [] => rfl
 | p :: l => by
  rw [eS, eS_w o l, wOf_cons, Rat.intCast_add]
  unfold eI
  by_cases c : p.f0 = o
  ·
   rw [if_pos c, if_pos c]; grind
  ·
   rw [if_neg c, if_neg c, Rat.intCast_zero]; grind
theorem eS_congr {K K' : List Int → Rat} : ∀ {l : List S32}, (∀ p ∈ l, K p.f0 = K' p.f0) → eS K l = eS K' l
 | [], _ => rfl
 | p :: l, h => by rw [eS, eS, h p (by simp), eS_congr (fun q hq => h q (by simp [hq]))]
theorem eS_mul (K : List Int → Rat) (c : Rat) : ∀ (l : List S32), eS (fun x => c * K x) l = c * eS K l
 | [] => by rw [eS, eS]; grind
 | p :: l => by rw [eS, eS, eS_mul K c l]; grind
def eE (K : List Int → Rat) (d : List S32) : Rat := eS K d / ((totOf d : Int) : Rat)
theorem cast_ne {x : Int} (h : x ≠ 0) : (x : Rat) ≠ 0 := fun e => h (by exact_mod_cast e)
theorem make_E {l : List S32} (h : (makeP l).2 = 0) (K : List Int → Rat) : eE K (makeP l).1 = eE K l := by
 have h1 : ∃ g : Nat, 0 < g ∧ eS K (makeP l).1 * ((g : Int) : Rat) = eS K l ∧ eS (fun _ => 1) (makeP l).1 * ((g : Int) : Rat) = eS (fun _ => 1) l := by
  unfold makeP at h ⊢
  by_cases ho : l.all okP = true
  ·
   rw [if_pos ho] at h ⊢
   have h0 : ∀ p ∈ l, 0 ≤ p.f1 := fun p hp => (all_ok ho p hp).1
   have hc := tidy_canon h0
   have hm := eS_merge K l
   have hm1 := eS_merge (fun _ => 1) l
   generalize tMerge (sortP l) = D at *
   unfold tDone at h ⊢
   by_cases e1 : D = []
   ·
    rw [if_pos e1] at h; cases h
   ·
    rw [if_neg e1] at h ⊢
    by_cases e2 : totOf D / (gOf D : Int) > 1073741824 ∨ D.length > 4096
    ·
     rw [if_pos e2] at h; cases h
    ·
     rw [if_neg e2]
     have hg := gOf_pos hc.pos e1
     exact ⟨gOf D, hg, (eS_div K (gOf D) hg D (fun p hp => ⟨hc.pos p hp, gOf_dvd hp⟩)).trans hm, (eS_div _ (gOf D) hg D (fun p hp => ⟨hc.pos p hp, gOf_dvd hp⟩)).trans hm1⟩
  ·
   rw [if_neg ho] at h; cases h
 obtain ⟨g, hg, e1, e2⟩ := h1
 have hr := right_of (make_right' h).1
 have hp := hr.pos
 rw [eS_tot, eS_tot] at e2
 have hg' : ((g : Int) : Rat) ≠ 0 := cast_ne (by omega)
 have ht' : ((totOf (makeP l).1 : Int) : Rat) ≠ 0 := cast_ne (by omega)
 unfold eE
 rw [← e1, ← e2]
 grind
theorem row_S {fs : List S45} {d : List S32} {a : Nat} (h : AOK fs d a) (K : List Int → Rat) {p : S32} (hp : p ∈ d) : eS K (rowP fs a p) = (p.f1 : Rat) * (((a : Int) : Rat) * eE K (thenP fs p.f0)) := by
 obtain ⟨n, m, e, n1, ha, hq, _, _, _⟩ := h.row hp
 have e1 : ∀ l : List S32, eS K (l.map (fun q => (⟨q.f0, p.f1 * (m : Int) * q.f1⟩ : S32))) = ((p.f1 : Rat) * ((m : Int) : Rat)) * eS K l := by
  intro l
  induction l with
  | nil => rw [List.map_nil, eS]; grind
  | cons q l ih => rw [List.map_cons, eS, eS, ih]; dsimp only; rw [Rat.intCast_mul, Rat.intCast_mul]; grind
 unfold rowP
 rw [hq, e1]
 unfold eE
 have hn' : ((n : Int) : Rat) ≠ 0 := cast_ne (by omega)
 rw [e, ha, Int.natCast_mul, Rat.intCast_mul]
 grind
theorem rows_S {fs : List S45} {a : Nat} (K : List Int → Rat) : ∀ (d : List S32), (∀ p ∈ d, eS K (rowP fs a p) = (p.f1 : Rat) * (((a : Int) : Rat) * eE K (thenP fs p.f0))) → eS K (d.flatMap (rowP fs a)) = ((a : Int) : Rat) * eS (fun x => eE K (thenP fs x)) d
 | [], _ => by rw [List.flatMap_nil, eS, eS]; grind
 | p :: d, h => by
  rw [List.flatMap_cons, eS_app, h p (by simp), rows_S K d (fun q hq => h q (by simp [hq])), eS]
  grind
theorem one_E {fs : List S45} {d : List S32} {a : Nat} (h : AOK fs d a) {p : S32} (hp : p ∈ d) : eE (fun _ => 1) (thenP fs p.f0) = 1 := by
 obtain ⟨n, m, e, n1, _⟩ := h.row hp
 unfold eE
 rw [eS_tot, e]
 have hn' : ((n : Int) : Rat) ≠ 0 := cast_ne (by omega)
 grind
theorem bindP_ok {fs : List S45} {d : List S32} (hf : FBd fs) (hd : Bd d) (h : (bindP fs d).2 = 0) : ∃ a, AOK fs d a ∧ bindP fs d = makeP (bindL fs a d) ∧ (makeP (bindL fs a d)).2 = 0 := by
 unfold bindP at h ⊢
 by_cases c : wrongP d = 0
 ·
  rw [if_pos c] at h ⊢
  by_cases c1 : (allP fs d 1).1 = 0
  ·
   rw [if_pos c1] at h ⊢
   by_cases c2 : ((allP fs d 1).2 : Int) * totOf d > 1073741824
   ·
    rw [if_pos c2] at h; cases h
   ·
    rw [if_neg c2] at h ⊢
    exact ⟨_, aok hf ⟨hd, c⟩ c1 c2, rfl, h⟩
  ·
   rw [if_neg c1] at h; exact absurd h c1
 ·
  rw [if_neg c] at h; exact absurd h c
theorem bind_E {fs : List S45} {d : List S32} (hf : FBd fs) (hd : Bd d) (h : (bindP fs d).2 = 0) (K : List Int → Rat) : eE K (bindP fs d).1 = eE (fun x => eE K (thenP fs x)) d := by
 obtain ⟨a, A, e, h2⟩ := bindP_ok hf hd h
 rw [e, make_E h2]
 have r1 := rows_S K d (fun p hp => row_S A K hp)
 have r2 := rows_S (fun _ => 1) d (fun p hp => row_S A _ hp)
 rw [eS_congr (K' := fun _ => 1) (fun p hp => one_E A hp), eS_tot, eS_tot] at r2
 have ha' : ((a : Int) : Rat) ≠ 0 := cast_ne (by have := A.p; omega)
 have ht' : ((totOf d : Int) : Rat) ≠ 0 := cast_ne (by have := A.rd.right.pos; omega)
 unfold eE bindL
 rw [r1, r2]
 unfold eE
 grind
theorem bind_right {fs : List S45} {d : List S32} (hf : FBd fs) (hd : Bd d) (h : (bindP fs d).2 = 0) : RD (bindP fs d).1 := by
 obtain ⟨a, A, e, h2⟩ := bindP_ok hf hd h
 have hw := (make_right' h2).1
 rw [e]
 exact ⟨bd_right hw, hw⟩
end Go.Proofs.Ytkemhfhmlcljjaa.DistPure
end
section
namespace Go.Proofs.Ytkemhfhmlcljjaa.DistPure
set_option linter.unusedVariables false
set_option linter.unusedSimpArgs false
open Go.RowKit Go.Proofs.Ytkemhfhmlcljjaa.PR Go.Proofs.YtkemhfhmlcljjaaW.PrintWords Go.Proofs.YtkemhfhmlcljjaaW.PrintLast Go.Proofs.YtkemhfhmlcljjaaW.PrintMore Go.Proofs.YtkemhfhmlcljjaaW.EvKit
def rS (F : List Int → Rat) : List (List Int) → Rat
 | [] => 0
 | o :: L => F o + rS F L
theorem rS_add (F G : List Int → Rat) : ∀ L, rS (fun o => F o + G o) L = rS F L + rS G L
 | [] => by rw [rS, rS, rS]; grind
 | o :: L => by rw [rS, rS, rS, rS_add F G L]; grind
theorem rS_zero (F : List Int → Rat) : ∀ L, (∀ o ∈ L, F o = 0) → rS F L = 0
 | [], _ => rfl
 | o :: L, h => by rw [rS, h o (by simp), rS_zero F L (fun q hq => h q (by simp [hq]))]; grind
theorem rS_le (F G : List Int → Rat) : ∀ L, (∀ o ∈ L, F o ≤ G o) → rS F L ≤ rS G L
 | [], _ => by rw [rS, rS]; grind
 | o :: L, h => by
  have h1 := h o (by simp)
  have h2 := rS_le F G L (fun q hq => h q (by simp [hq]))
  rw [rS, rS]; grind
theorem rS_mul (F : List Int → Rat) (c : Rat) : ∀ L, rS (fun o => c * F o) L = c * rS F L
 | [] => by rw [rS, rS]; grind
 | o :: L => by rw [rS, rS, rS_mul F c L]; grind
theorem rS_congr {F G : List Int → Rat} {L : List (List Int)} (h : ∀ o ∈ L, F o = G o) : rS F L = rS G L := by
 induction L with
 | nil => rfl
 | cons o L ih => rw [rS, rS, h o (by simp), ih (fun q hq => h q (by simp [hq]))]
theorem rS_once (K : List Int → Rat) (x : List Int) (w : Rat) (hw : 0 ≤ w) (hK : 0 ≤ K x) : ∀ L : List (List Int), L.Nodup → rS (fun o => (if x = o then w else 0) * K o) L ≤ w * K x
 | [], _ => by rw [rS]; exact Rat.mul_nonneg hw hK
 | o :: L, h => by
  obtain ⟨h1, h2⟩ := List.nodup_cons.1 h
  rw [rS]
  by_cases c : x = o
  ·
   rw [if_pos c, rS_zero _ L (fun q hq => by rw [if_neg (fun e => h1 (by rw [← c, e]; exact hq))]; grind), c]; grind
  ·
   rw [if_neg c]
   have := rS_once K x w hw hK L h2
   grind
theorem cast_nn {x : Int} (h : 0 ≤ x) : (0 : Rat) ≤ (x : Rat) := Rat.intCast_nonneg.2 h
theorem sub_le (K : List Int → Rat) (hK : ∀ o, 0 ≤ K o) (L : List (List Int)) (hL : L.Nodup) : ∀ b : List S32, (∀ p ∈ b, 0 ≤ p.f1) → rS (fun o => ((wOf b o : Int) : Rat) * K o) L ≤ eS K b
 | [], _ => by
  rw [rS_zero _ L (fun o _ => by rw [show wOf ([] : List S32) o = 0 from rfl, Rat.intCast_zero]; grind), eS]; grind
 | p :: b, h => by
  have ih := sub_le K hK L hL b (fun q hq => h q (by simp [hq]))
  have h1 := rS_once K p.f0 (p.f1 : Rat) (cast_nn (h p (by simp))) (hK _) L hL
  have e : rS (fun o => ((wOf (p :: b) o : Int) : Rat) * K o) L = rS (fun o => (if p.f0 = o then (p.f1 : Rat) else 0) * K o) L + rS (fun o => ((wOf b o : Int) : Rat) * K o) L := by
   rw [← rS_add]
   refine rS_congr (fun o _ => ?_)
   rw [wOf_cons, Rat.intCast_add]
   by_cases c : p.f0 = o
   ·
    rw [if_pos c, if_pos c]; grind
   ·
    rw [if_neg c, if_neg c, Rat.intCast_zero]; grind
  rw [e, eS]; grind
theorem eS_map (K F : List Int → Rat) : ∀ l : List S32, (∀ p ∈ l, (p.f1 : Rat) * K p.f0 = F p.f0) → eS K l = rS F (l.map (·.f0))
 | [], _ => rfl
 | p :: l, h => by rw [List.map_cons, rS, eS, h p (by simp), eS_map K F l (fun q hq => h q (by simp [hq]))]
theorem eS_self (K : List Int → Rat) {a : List S32} (h : Strict a) : eS K a = rS (fun o => ((wOf a o : Int) : Rat) * K o) (a.map (·.f0)) := by
 refine eS_map K _ a (fun p hp => ?_)
 have : wOf a p.f0 = p.f1 := by
  clear K
  induction a with
  | nil => cases hp
  | cons q a ih =>
   rcases List.mem_cons.1 hp with e | e
   ·
    rw [e]; exact wOf_hit h
   ·
    have h1 := (List.pairwise_cons.1 h).1 p e
    rw [wOf_skip (lt_ne h1)]
    exact ih (List.pairwise_cons.1 h).2 e
 rw [this]
theorem eS_nn (K : List Int → Rat) (hK : ∀ o, 0 ≤ K o) : ∀ l : List S32, (∀ p ∈ l, 0 ≤ p.f1) → 0 ≤ eS K l
 | [], _ => by rw [eS]; grind
 | p :: l, h => by
  have h1 := eS_nn K hK l (fun q hq => h q (by simp [hq]))
  have h2 := Rat.mul_nonneg (cast_nn (h p (by simp))) (hK p.f0)
  rw [eS]; grind
theorem inv_nn {t : Int} (h : 0 < t) : (0 : Rat) ≤ ((t : Int) : Rat)⁻¹ := Rat.le_of_lt (Rat.inv_pos.2 (by exact_mod_cast h))
theorem eI_nn (o x : List Int) : 0 ≤ eI o x := by
 unfold eI
 split <;> grind
theorem eE_le {a b : List S32} (ha : RD a) (hb : RD b) {R : Rat} (hR : 0 ≤ R) (h : ∀ o, eE (eI o) a ≤ R * eE (eI o) b) {K : List Int → Rat} (hK : ∀ o, 0 ≤ K o) : eE K a ≤ R * eE K b := by
 have pa := ha.right.pos
 have pb := hb.right.pos
 have ha0 : ((totOf a : Int) : Rat) ≠ 0 := cast_ne (by omega)
 have hb0 : ((totOf b : Int) : Rat) ≠ 0 := cast_ne (by omega)
 have e1 : eE K a = rS (fun o => eE (eI o) a * K o) (a.map (·.f0)) := by
  unfold eE
  rw [eS_self K ha.right.st, Rat.div_def, Rat.mul_comm, ← rS_mul]
  refine rS_congr (fun o _ => ?_)
  rw [eS_w, Rat.div_def]; grind
 have e2 : rS (fun o => R * (eE (eI o) b * K o)) (a.map (·.f0)) ≤ R * eE K b := by
  rw [rS_mul]
  refine Rat.mul_le_mul_of_nonneg_left ?_ hR
  have h2 := sub_le K hK (a.map (·.f0)) (strict_nodup ha.right.st) b hb.nn
  have e3 : rS (fun o => eE (eI o) b * K o) (a.map (·.f0)) = ((totOf b : Int) : Rat)⁻¹ * rS (fun o => ((wOf b o : Int) : Rat) * K o) (a.map (·.f0)) := by
   rw [← rS_mul]
   refine rS_congr (fun o _ => ?_)
   unfold eE
   rw [eS_w, Rat.div_def]; grind
  rw [e3]
  unfold eE
  rw [Rat.div_def, Rat.mul_comm (eS K b)]
  exact Rat.mul_le_mul_of_nonneg_left h2 (inv_nn pb)
 rw [e1]
 have e4 : rS (fun o => eE (eI o) a * K o) (a.map (·.f0)) ≤ rS (fun o => R * (eE (eI o) b * K o)) (a.map (·.f0)) := by
  refine rS_le _ _ _ (fun o _ => ?_)
  have := Rat.mul_le_mul_of_nonneg_right (h o) (hK o)
  grind
 grind
theorem eE_mono {a : List S32} (ha : RD a) {K K' : List Int → Rat} (h : ∀ p ∈ a, K p.f0 ≤ K' p.f0) : eE K a ≤ eE K' a := by
 have h1 : ∀ l : List S32, (∀ p ∈ l, 0 ≤ p.f1 ∧ K p.f0 ≤ K' p.f0) → eS K l ≤ eS K' l := by
  intro l
  induction l with
  | nil => intro _; rw [eS, eS]; grind
  | cons p l ih =>
   intro hh
   have h2 := ih (fun q hq => hh q (by simp [hq]))
   have h3 := Rat.mul_le_mul_of_nonneg_left (hh p (by simp)).2 (cast_nn (hh p (by simp)).1)
   rw [eS, eS]; grind
 unfold eE
 rw [Rat.div_def, Rat.div_def]
 exact Rat.mul_le_mul_of_nonneg_right (h1 a (fun p hp => ⟨ha.nn p hp, h p hp⟩)) (inv_nn ha.right.pos)
theorem eE_cmul (K : List Int → Rat) (c : Rat) (l : List S32) : eE (fun x => c * K x) l = c * eE K l := by
 unfold eE
 rw [eS_mul, Rat.div_def, Rat.div_def]; grind
def fr (s : Nat × Nat) : Rat := ((s.1 : Int) : Rat) / ((s.2 : Int) : Rat)
theorem cross_le {x y ta tb p q : Nat} (hta : 1 ≤ ta) (htb : 1 ≤ tb) (hq : 1 ≤ q) (h : x * tb * q ≤ p * (y * ta)) : ((x : Int) : Rat) / ((ta : Int) : Rat) ≤ ((p : Int) : Rat) / ((q : Int) : Rat) * (((y : Int) : Rat) / ((tb : Int) : Rat)) := by
 have a0 : (0 : Rat) < ((ta : Int) : Rat) := by exact_mod_cast (show (0 : Int) < (ta : Int) by omega)
 have b0 : (0 : Rat) < ((tb : Int) : Rat) := by exact_mod_cast (show (0 : Int) < (tb : Int) by omega)
 have q0 : (0 : Rat) < ((q : Int) : Rat) := by exact_mod_cast (show (0 : Int) < (q : Int) by omega)
 have h1 : ((x : Int) : Rat) * ((tb : Int) : Rat) * ((q : Int) : Rat) ≤ ((p : Int) : Rat) * (((y : Int) : Rat) * ((ta : Int) : Rat)) := by exact_mod_cast h
 have i0 : (0 : Rat) ≤ (((ta : Int) : Rat)⁻¹ * (((tb : Int) : Rat)⁻¹ * ((q : Int) : Rat)⁻¹)) := Rat.mul_nonneg (Rat.le_of_lt (Rat.inv_pos.2 a0)) (Rat.mul_nonneg (Rat.le_of_lt (Rat.inv_pos.2 b0)) (Rat.le_of_lt (Rat.inv_pos.2 q0)))
 have h2 := Rat.mul_le_mul_of_nonneg_right h1 i0
 have ea : ((ta : Int) : Rat) * ((ta : Int) : Rat)⁻¹ = 1 := by grind
 have eb : ((tb : Int) : Rat) * ((tb : Int) : Rat)⁻¹ = 1 := by grind
 have eq : ((q : Int) : Rat) * ((q : Int) : Rat)⁻¹ = 1 := by grind
 rw [Rat.div_def, Rat.div_def, Rat.div_def]
 generalize ((ta : Int) : Rat)⁻¹ = ia at *
 generalize ((tb : Int) : Rat)⁻¹ = ib at *
 generalize ((q : Int) : Rat)⁻¹ = iq at *
 have l1 : ((x : Int) : Rat) * ((tb : Int) : Rat) * ((q : Int) : Rat) * (ia * (ib * iq)) = ((x : Int) : Rat) * ia := by
  calc _ = ((x : Int) : Rat) * ia * (((tb : Int) : Rat) * ib) * (((q : Int) : Rat) * iq) := by grind
   _ = _ := by rw [eb, eq]; grind
 have l2 : ((p : Int) : Rat) * (((y : Int) : Rat) * ((ta : Int) : Rat)) * (ia * (ib * iq)) = ((p : Int) : Rat) * iq * (((y : Int) : Rat) * ib) := by
  calc _ = ((p : Int) : Rat) * iq * (((y : Int) : Rat) * ib) * (((ta : Int) : Rat) * ia) := by grind
   _ = _ := by rw [ea]; grind
 rw [l1, l2] at h2
 exact h2
theorem eI_val {a : List S32} {ta : Nat} (ha : RD a) (ea : totOf a = (ta : Int)) (o : List Int) : eE (eI o) a = (((wOf a o).toNat : Int) : Rat) / ((ta : Int) : Rat) := by
 unfold eE
 rw [eS_w, ea, Int.toNat_of_nonneg (ha.wbd o).1]
theorem FarOK.le {a b : List S32} {ta tb : Nat} {s : Nat × Nat} (h : FarOK a b ta tb s) (o : List Int) : eE (eI o) a ≤ fr s * eE (eI o) b ∧ eE (eI o) b ≤ fr s * eE (eI o) a := by
 rw [eI_val h.two.a h.ea, eI_val h.two.b h.eb]
 have h1 := (h.two.a.wbd o).1
 have h2 := (h.two.b.wbd o).1
 by_cases c : 0 < wOf a o ∨ 0 < wOf b o
 ·
  obtain ⟨_, _, k1, k2, _⟩ := h.at o c
  have hs := h.mx.pos.2
  unfold le2 uv pw at k1 k2
  exact ⟨cross_le h.a1 h.b1 hs k1, cross_le h.b1 h.a1 hs k2⟩
 ·
  have z1 : (wOf a o).toNat = 0 := by omega
  have z2 : (wOf b o).toNat = 0 := by omega
  rw [z1, z2, Rat.div_def, Rat.div_def]
  have z : (((0 : Nat) : Int) : Rat) = 0 := rfl
  rw [z]
  constructor <;> grind
theorem FarOK.fr1 {a b : List S32} {ta tb : Nat} {s : Nat × Nat} (h : FarOK a b ta tb s) : 0 ≤ fr s := by
 unfold fr
 rw [Rat.div_def]
 exact Rat.mul_nonneg (cast_nn (by omega)) (inv_nn (by have := h.mx.pos.2; omega))
theorem cross_ge {x y ta tb p q : Nat} {R : Rat} (hta : 1 ≤ ta) (htb : 1 ≤ tb) (hq : 1 ≤ q) (hy : 1 ≤ y) (h : p * (y * ta) ≤ x * tb * q) (hR : ((x : Int) : Rat) / ((ta : Int) : Rat) ≤ R * (((y : Int) : Rat) / ((tb : Int) : Rat))) : ((p : Int) : Rat) / ((q : Int) : Rat) ≤ R := by
 have a0 : (0 : Rat) < ((ta : Int) : Rat) := by exact_mod_cast (show (0 : Int) < (ta : Int) by omega)
 have b0 : (0 : Rat) < ((tb : Int) : Rat) := by exact_mod_cast (show (0 : Int) < (tb : Int) by omega)
 have q0 : (0 : Rat) < ((q : Int) : Rat) := by exact_mod_cast (show (0 : Int) < (q : Int) by omega)
 have y0 : (0 : Rat) < ((y : Int) : Rat) := by exact_mod_cast (show (0 : Int) < (y : Int) by omega)
 have h1 : ((p : Int) : Rat) * (((y : Int) : Rat) * ((ta : Int) : Rat)) ≤ ((x : Int) : Rat) * ((tb : Int) : Rat) * ((q : Int) : Rat) := by exact_mod_cast h
 -- x * tb ≤ R * y * ta
 have h2 := Rat.mul_le_mul_of_nonneg_right hR (Rat.le_of_lt (Rat.mul_pos a0 b0))
 have e1 : ((x : Int) : Rat) / ((ta : Int) : Rat) * (((ta : Int) : Rat) * ((tb : Int) : Rat)) = ((x : Int) : Rat) * ((tb : Int) : Rat) := by grind
 have e2 : R * (((y : Int) : Rat) / ((tb : Int) : Rat)) * (((ta : Int) : Rat) * ((tb : Int) : Rat)) = R * (((y : Int) : Rat) * ((ta : Int) : Rat)) := by grind
 rw [e1, e2] at h2
 have h3 := Rat.mul_le_mul_of_nonneg_right h2 (Rat.le_of_lt q0)
 have h4 : ((p : Int) : Rat) * (((y : Int) : Rat) * ((ta : Int) : Rat)) ≤ R * (((y : Int) : Rat) * ((ta : Int) : Rat)) * ((q : Int) : Rat) := Rat.le_trans h1 h3
 have i0 : (0 : Rat) ≤ ((((y : Int) : Rat) * ((ta : Int) : Rat))⁻¹ * ((q : Int) : Rat)⁻¹) := Rat.mul_nonneg (Rat.le_of_lt (Rat.inv_pos.2 (Rat.mul_pos y0 a0))) (Rat.le_of_lt (Rat.inv_pos.2 q0))
 have h5 := Rat.mul_le_mul_of_nonneg_right h4 i0
 have w0 : ((y : Int) : Rat) * ((ta : Int) : Rat) ≠ 0 := by
  have := Rat.mul_pos y0 a0
  grind
 generalize ((y : Int) : Rat) * ((ta : Int) : Rat) = W at *
 have q1 : ((q : Int) : Rat) ≠ 0 := by grind
 have e3 : ((p : Int) : Rat) * W * (W⁻¹ * ((q : Int) : Rat)⁻¹) = ((p : Int) : Rat) / ((q : Int) : Rat) := by grind
 have e4 : R * W * ((q : Int) : Rat) * (W⁻¹ * ((q : Int) : Rat)⁻¹) = R := by grind
 rw [e3, e4] at h5
 exact h5
theorem FarOK.sup {a b : List S32} {ta tb : Nat} {s : Nat × Nat} (h : FarOK a b ta tb s) {R : Rat} (hR : 1 ≤ R) (hh : ∀ o, eE (eI o) a ≤ R * eE (eI o) b ∧ eE (eI o) b ≤ R * eE (eI o) a) : fr s ≤ R := by
 have hs := h.mx.pos.2
 have q0 : (0 : Rat) < ((s.2 : Int) : Rat) := by exact_mod_cast (show (0 : Int) < (s.2 : Int) by omega)
 rcases h.some with c | ⟨o, p1, p2, c⟩
 ·
  unfold le2 at c
  have c' : ((s.1 : Int) : Rat) ≤ ((s.2 : Int) : Rat) := by exact_mod_cast (show s.1 ≤ s.2 by omega)
  have h1 := Rat.mul_le_mul_of_nonneg_right c' (Rat.le_of_lt (Rat.inv_pos.2 q0))
  have q1 : ((s.2 : Int) : Rat) ≠ 0 := by grind
  have e : ((s.2 : Int) : Rat) * ((s.2 : Int) : Rat)⁻¹ = 1 := by grind
  unfold fr
  rw [Rat.div_def]
  rw [e] at h1
  exact Rat.le_trans h1 hR
 ·
  have hl := hh o
  rw [eI_val h.two.a h.ea, eI_val h.two.b h.eb] at hl
  unfold le2 uv pw at c
  rcases c with c | c
  ·
   exact cross_ge h.a1 h.b1 hs (by omega) c hl.1
  ·
   exact cross_ge h.b1 h.a1 hs (by omega) c hl.2
theorem no_of {a b : List S32} (ht : Two a b) {R : Rat} (hh : ∀ o, eE (eI o) a ≤ R * eE (eI o) b ∧ eE (eI o) b ≤ R * eE (eI o) a) : ∀ x ∈ pairsL a b, pNo x := by
 intro x hx
 obtain ⟨o, ho, rfl⟩ := List.mem_map.1 (ht.perm.mem_iff.1 hx)
 have pa := ht.a.right.pos
 have pb := ht.b.right.pos
 have ea : totOf a = (((totOf a).toNat : Nat) : Int) := by omega
 have eb : totOf b = (((totOf b).toNat : Nat) : Int) := by omega
 have hl := hh o
 rw [eI_val ht.a ea, eI_val ht.b eb] at hl
 have wa := (ht.a.wbd o).1
 have wb := (ht.b.wbd o).1
 have a0 : (0 : Rat) < (((totOf a).toNat : Int) : Rat) := by exact_mod_cast (show (0 : Int) < ((totOf a).toNat : Int) by omega)
 have b0 : (0 : Rat) < (((totOf b).toNat : Int) : Rat) := by exact_mod_cast (show (0 : Int) < ((totOf b).toNat : Int) by omega)
 have key : ∀ (u v : Int) (t : Nat), 0 ≤ v → (0 : Rat) < ((t : Int) : Rat) → u = 0 → ((v.toNat : Int) : Rat) / ((t : Int) : Rat) ≤ R * (((u.toNat : Int) : Rat) / (((totOf a).toNat : Int) : Rat)) ∨ ((v.toNat : Int) : Rat) / ((t : Int) : Rat) ≤ R * (((u.toNat : Int) : Rat) / (((totOf b).toNat : Int) : Rat)) → v = 0 := by
  intro u v t hv ht hu hle
  have hz : ((v.toNat : Int) : Rat) / ((t : Int) : Rat) ≤ 0 := by
   rw [hu] at hle
   have z : ((((0 : Int).toNat : Nat) : Int) : Rat) = 0 := rfl
   rw [z, Rat.div_def, Rat.div_def, Rat.div_def] at hle
   rw [Rat.div_def]
   rcases hle with e | e <;> grind
  have h3 := Rat.mul_le_mul_of_nonneg_right hz (Rat.le_of_lt ht)
  have t1 : ((t : Int) : Rat) ≠ 0 := by grind
  have e1 : ((v.toNat : Int) : Rat) / ((t : Int) : Rat) * ((t : Int) : Rat) = ((v.toNat : Int) : Rat) := by grind
  rw [e1, Rat.zero_mul] at h3
  have h4 : (v.toNat : Int) ≤ 0 := by exact_mod_cast h3
  omega
 have h0 : wOf a o = 0 ↔ wOf b o = 0 := ⟨fun e => key _ _ _ wb b0 e (.inl hl.2), fun e => key _ _ _ wa a0 e (.inr hl.1)⟩
 have hsome := (outs_mem ho)
 have hpos : wOf a o ≠ 0 ∨ wOf b o ≠ 0 := by
  rcases hsome with ⟨p, hp, e⟩ | ⟨p, hp, e⟩
  ·
   left
   have h5 := wOf_ge ht.a.nn hp
   have h6 := ht.a.pw p hp
   rw [e] at h5
   omega
  ·
   right
   have h5 := wOf_ge ht.b.nn hp
   have h6 := ht.b.pw p hp
   rw [e] at h5
   omega
 show ¬ wOf a o = 0 ∧ ¬ wOf b o = 0
 rw [h0]
 rcases hpos with e | e
 ·
  exact ⟨fun x => e (h0.2 x), fun x => e (h0.2 x)⟩
 ·
  exact ⟨e, e⟩
end Go.Proofs.Ytkemhfhmlcljjaa.DistPure
end
section
namespace Go.Proofs.Ytkemhfhmlcljjaa.PR
set_option maxRecDepth 100000
open Go.RowKit Go.Proofs.YtkemhfhmlcljjaaW.PrintWords Go.Proofs.YtkemhfhmlcljjaaW.PrintLast Go.Proofs.YtkemhfhmlcljjaaW.PrintMore
open Go.Proofs.YtkemhfhmlcljjaaW.EvKit
set_option linter.unusedVariables false
noncomputable def hushref1_Make.J0 (x0 : Int) (x1 : Int) (x12 : Bool) : Option (Int × Int × Int) := lim (fun k => hushref1_Make.j0 k x0 x1 x12)
theorem hushref1_Make.J0_is (x0 : Int) (x1 : Int) (x12 : Bool) : LimIs (fun k => hushref1_Make.j0 k x0 x1 x12) (hushref1_Make.J0 x0 x1 x12) := ⟨fun k => (hushref1_Make.mono_l k) x0 x1 x12, rfl⟩
noncomputable def hushref1_Make.F (a0 : Int) (a1 : Int) : Option (Int × Int × Int) := lim (fun k => hushref1_Make.f k a0 a1)
theorem hushref1_Make.F_is (a0 : Int) (a1 : Int) : LimIs (fun k => hushref1_Make.f k a0 a1) (hushref1_Make.F a0 a1) := ⟨fun k => hushref1_Make.mono a0 a1 k, rfl⟩
noncomputable def hushref1_Right.F (a0_0 : Int) (a0_1 : Int) : Option (Bool) := lim (fun k => hushref1_Right.f k a0_0 a0_1)
theorem hushref1_Right.F_is (a0_0 : Int) (a0_1 : Int) : LimIs (fun k => hushref1_Right.f k a0_0 a0_1) (hushref1_Right.F a0_0 a0_1) := ⟨fun k => hushref1_Right.mono a0_0 a0_1 k, rfl⟩
noncomputable def hushref1_Times.F (a0_0 : Int) (a0_1 : Int) (a1_0 : Int) (a1_1 : Int) : Option (Int × Int × Int) := lim (fun k => hushref1_Times.f k a0_0 a0_1 a1_0 a1_1)
theorem hushref1_Times.F_is (a0_0 : Int) (a0_1 : Int) (a1_0 : Int) (a1_1 : Int) : LimIs (fun k => hushref1_Times.f k a0_0 a0_1 a1_0 a1_1) (hushref1_Times.F a0_0 a0_1 a1_0 a1_1) := ⟨fun k => hushref1_Times.mono a0_0 a0_1 a1_0 a1_1 k, rfl⟩
theorem hushref1_Make.F_eq (a0 : Int) (a1 : Int) : hushref1_Make.F a0 a1 = if a0 < 0 then (hushref1_Make.J0 a0 a1 true) else (hushref1_Make.J0 a0 a1 (decide (a1 < 1))) := by
 refine LimIs.out (?_ : LimIs (fun k => if a0 < 0 then (hushref1_Make.j0 k a0 a1 true) else (hushref1_Make.j0 k a0 a1 (decide (a1 < 1)))) _)
 repeat' first
  | (with_reducible exact hushref1_Make.J0_is _ _ _)
  | (with_reducible exact LimIs.const _)
  | (with_reducible refine LimIs.ite ?_ ?_)
  | (with_reducible refine LimIs.bind ?_ (fun _ => ?_))
  | exact hushref1_Make.J0_is _ _ _
  | exact LimIs.const _
  | refine LimIs.ite ?_ ?_
  | refine LimIs.bind ?_ (fun _ => ?_)
theorem hushref1_Right.F_eq (a0_0 : Int) (a0_1 : Int) : hushref1_Right.F a0_0 a0_1 = if a0_0 ≥ 0 then (if a0_1 ≥ 1 then (if a0_0 ≤ 1073741824 then (if a0_1 ≤ 1073741824 then ((hushref1_Divisor.F a0_0 a0_1).bind fun t205 => (some (t205 == 1))) else (some false)) else (some false)) else (some false)) else (some false) := by
 refine LimIs.out (?_ : LimIs (fun k => if a0_0 ≥ 0 then (if a0_1 ≥ 1 then (if a0_0 ≤ 1073741824 then (if a0_1 ≤ 1073741824 then ((hushref1_Divisor.f k a0_0 a0_1).bind fun t205 => (some (t205 == 1))) else (some false)) else (some false)) else (some false)) else (some false)) _)
 repeat' first
  | (with_reducible exact hushref1_Divisor.F_is _ _)
  | (with_reducible exact LimIs.const _)
  | (with_reducible refine LimIs.ite ?_ ?_)
  | (with_reducible refine LimIs.bind ?_ (fun _ => ?_))
  | exact hushref1_Divisor.F_is _ _
  | exact LimIs.const _
  | refine LimIs.ite ?_ ?_
  | refine LimIs.bind ?_ (fun _ => ?_)
theorem hushref1_Times.F_eq (a0_0 : Int) (a0_1 : Int) (a1_0 : Int) (a1_1 : Int) : hushref1_Times.F a0_0 a0_1 a1_0 a1_1 = (hushref1_Right.F a0_0 a0_1).bind fun t209 => (if t209 = true then ((hushref1_Right.F a1_0 a1_1).bind fun t210 => (if t210 = true then ((hushref1_Make.F (wrap64 (a0_0 * a1_0)) (wrap64 (a0_1 * a1_1))).bind fun bt211 => (some (bt211.1, bt211.2.1, bt211.2.2))) else (some (0, 0, (2 : Int))))) else (some (0, 0, (2 : Int)))) := by
 refine LimIs.out (?_ : LimIs (fun k => (hushref1_Right.f k a0_0 a0_1).bind fun t209 => (if t209 = true then ((hushref1_Right.f k a1_0 a1_1).bind fun t210 => (if t210 = true then ((hushref1_Make.f k (wrap64 (a0_0 * a1_0)) (wrap64 (a0_1 * a1_1))).bind fun bt211 => (some (bt211.1, bt211.2.1, bt211.2.2))) else (some (0, 0, (2 : Int))))) else (some (0, 0, (2 : Int))))) _)
 repeat' first
  | (with_reducible exact hushref1_Right.F_is _ _)
  | (with_reducible exact hushref1_Make.F_is _ _)
  | (with_reducible exact LimIs.const _)
  | (with_reducible refine LimIs.ite ?_ ?_)
  | (with_reducible refine LimIs.bind ?_ (fun _ => ?_))
  | exact hushref1_Right.F_is _ _
  | exact hushref1_Make.F_is _ _
  | exact LimIs.const _
  | refine LimIs.ite ?_ ?_
  | refine LimIs.bind ?_ (fun _ => ?_)
end Go.Proofs.Ytkemhfhmlcljjaa.PR
end
section
namespace Go.Proofs.Ytkemhfhmlcljjaa.DistPure
set_option linter.unusedVariables false
set_option linter.unusedSimpArgs false
open Go.RowKit Go.Proofs.Ytkemhfhmlcljjaa.PR Go.Proofs.YtkemhfhmlcljjaaW.PrintWords Go.Proofs.YtkemhfhmlcljjaaW.PrintLast Go.Proofs.YtkemhfhmlcljjaaW.PrintMore Go.Proofs.YtkemhfhmlcljjaaW.EvKit
theorem r1make_ev {u d : Int} (hu : -9223372036854775808 ≤ u ∧ u ≤ 9223372036854775807) (hd : -9223372036854775808 ≤ d ∧ d ≤ 9223372036854775807) : Ev (fun k => hushref1_Make.f k u d) (makeS u d) := by
 have hj : ∀ b, b = decide (u < 0 ∨ d < 1) → Ev (fun k => hushref1_Make.j0 k u d b) (makeS u d) := fun b hb =>
  Ev.step (fun k => hushref1_Make.j0.eq_2 _ _ _ k) (make_j (fun h0 h1 => div_ev h0 h1 hu.2 hd.2) hu hd b hb)
 by_cases h : u < 0
 ·
  exact Ev.pos h (hj true (by simp [h]))
 ·
  exact Ev.neg h (hj _ (by simp [h]))
theorem r1makeF {u d : Int} (hu : -9223372036854775808 ≤ u ∧ u ≤ 9223372036854775807) (hd : -9223372036854775808 ≤ d ∧ d ≤ 9223372036854775807) : hushref1_Make.F u d = some (makeS u d) := (hushref1_Make.F_is u d).of_ev (r1make_ev hu hd)
structure Rt (u d : Int) : Prop where
 u0 : 0 ≤ u
 d1 : 1 ≤ d
 u2 : u ≤ 1073741824
 d2 : d ≤ 1073741824
 co : Int.gcd u d = 1
theorem Rt.f {u d : Int} (h : Rt u d) : hushref1_Right.F u d = some true := by
 obtain ⟨h1, h2, h3, h4, h5⟩ := h
 rw [hushref1_Right.F_eq, if_pos h1, if_pos h2, if_pos h3, if_pos h4, divF h1 h2 (by omega) (by omega), Option.bind_some, h5]
 rfl
theorem makeS_ok {u d p q : Int} (h : makeS u d = (p, q, 0)) : 0 ≤ u ∧ 1 ≤ d ∧ Rt p q ∧ p * d = u * q := by
 unfold makeS at h
 split at h
 ·
  simp at h
 ·
  rename_i h0
  split at h
  ·
   simp at h
  ·
   rename_i h1
   have hd : 1 ≤ d := by omega
   have hu : 0 ≤ u := by omega
   have hg := gcd_pos (u := u) hd
   simp only [Prod.mk.injEq, and_true] at h
   obtain ⟨rfl, rfl⟩ := h
   have e1 : (Int.gcd u d : Int) * (u / (Int.gcd u d : Nat)) = u := Int.mul_ediv_cancel' (Int.gcd_dvd_left u d)
   have e2 : (Int.gcd u d : Int) * (d / (Int.gcd u d : Nat)) = d := Int.mul_ediv_cancel' (Int.gcd_dvd_right u d)
   have hq : 1 ≤ d / (Int.gcd u d : Nat) := by
    rcases Int.lt_or_le (d / (Int.gcd u d : Nat)) 1 with hl | hl
    ·
     have : (Int.gcd u d : Int) * (d / (Int.gcd u d : Nat)) ≤ 0 := Int.mul_nonpos_of_nonneg_of_nonpos (by omega) (by omega)
     omega
    ·
     exact hl
   refine ⟨hu, hd, ⟨Int.ediv_nonneg hu (by omega), hq, by omega, by omega, ?_⟩, ?_⟩
   ·
    exact Int.gcd_ediv_gcd_ediv_gcd hg
   ·
    calc u / (Int.gcd u d : Nat) * d = u / (Int.gcd u d : Nat) * ((Int.gcd u d : Int) * (d / (Int.gcd u d : Nat))) := by rw [e2]
     _ = ((Int.gcd u d : Int) * (u / (Int.gcd u d : Nat))) * (d / (Int.gcd u d : Nat)) := by grind
     _ = u * (d / (Int.gcd u d : Nat)) := by rw [e1]
theorem mul_bd {a b : Int} (ha : 0 ≤ a) (ha' : a ≤ 1073741824) (hb : 0 ≤ b) (hb' : b ≤ 1073741824) : 0 ≤ a * b ∧ a * b ≤ 1152921504606846976 :=
 ⟨Int.mul_nonneg ha hb, by have := Int.mul_le_mul ha' hb' hb (by omega : (0 : Int) ≤ 1073741824); omega⟩
theorem r1timesF {a b c d : Int} (h : Rt a b) (k : Rt c d) : hushref1_Times.F a b c d = some (makeS (a * c) (b * d)) := by
 have m1 := mul_bd h.u0 h.u2 k.u0 k.u2
 have m2 := mul_bd (show 0 ≤ b by have := h.d1; omega) h.d2 (show 0 ≤ d by have := k.d1; omega) k.d2
 rw [hushref1_Times.F_eq, h.f, Option.bind_some, if_pos rfl, k.f, Option.bind_some, if_pos rfl, wrap64_of (x := a * c) (by omega) (by omega), wrap64_of (x := b * d) (by omega) (by omega), r1makeF ⟨by omega, by omega⟩ ⟨by omega, by omega⟩, Option.bind_some]
end Go.Proofs.Ytkemhfhmlcljjaa.DistPure
end
section
namespace Go.Proofs.Ytkemhfhmlcljjaa.DistPure
set_option linter.unusedVariables false
set_option linter.unusedSimpArgs false
open Go.RowKit Go.Proofs.Ytkemhfhmlcljjaa.PR Go.Proofs.YtkemhfhmlcljjaaW.PrintWords Go.Proofs.YtkemhfhmlcljjaaW.PrintLast Go.Proofs.YtkemhfhmlcljjaaW.PrintMore Go.Proofs.YtkemhfhmlcljjaaW.EvKit
theorem ones (l : List Int) : (l.map (fun _ => 1)).sum = l.length := by
 induction l with
 | nil => rfl
 | cons a l ih => rw [List.map_cons, List.sum_cons, ih, List.length_cons]; omega
theorem bulk_bd : ∀ (l : List S32), l.length ≤ (l.map (fun z => ((((z.f0.map (fun _ => 1)).sum + 1) + 1) + 1))).sum ∧ ∀ p ∈ l, p.f0.length ≤ (l.map (fun z => ((((z.f0.map (fun _ => 1)).sum + 1) + 1) + 1))).sum
 | [] => ⟨by simp, by simp⟩
 | q :: l => by
  obtain ⟨h1, h2⟩ := bulk_bd l
  rw [List.map_cons, List.sum_cons, ones]
  refine ⟨by rw [List.length_cons]; omega, fun p hp => ?_⟩
  rcases List.mem_cons.1 hp with e | e
  ·
   rw [e]; omega
  ·
   have := h2 p e
   omega
theorem make_three : makeP [(⟨[3], 1⟩ : S32)] = ([⟨[3], 1⟩], 0) := by
 have h1 : tMerge (sortP [(⟨[3], 1⟩ : S32)]) = [⟨[3], 1⟩] := by
  have : sortP [(⟨[3], 1⟩ : S32)] = [⟨[3], 1⟩] := List.mergeSort_singleton _
  rw [this]; rfl
 unfold makeP
 rw [if_pos (by decide), h1]
 rfl
theorem aliveF : hushlaw2_alive.F = some true := by
 have hb : Bd [(⟨[3], 1⟩ : S32)] := ⟨by simp, fun p hp => by rw [List.mem_singleton.1 hp]; simp⟩
 rw [hushlaw2_alive.F_eq, dist_Sure.F_eq, makeF1 _ hb, make_three, Option.bind_some, Option.bind_some]
 rfl
theorem mostF {a b c d : Int} (e w : Int) (h : e = 0 → w = 0 → Rt a b ∧ Rt c d ∧ a * d ≤ c * b) : hushlaw2_most.f a b e c d w = some true := by
 unfold hushlaw2_most.f
 by_cases c1 : e = 0
 ·
  rw [if_pos c1]
  by_cases c2 : w = 0
  ·
   rw [if_pos c2]
   obtain ⟨h1, h2, h3⟩ := h c1 c2
   have m1 := mul_bd h1.u0 h1.u2 (show 0 ≤ d by have := h2.d1; omega) h2.d2
   have m2 := mul_bd h2.u0 h2.u2 (show 0 ≤ b by have := h1.d1; omega) h1.d2
   unfold hushref1_Most.f
   rw [wrap64_of (by omega) (by omega), wrap64_of (by omega) (by omega), Option.bind_some, decide_eq_true h3]
  ·
   rw [if_neg c2]
 ·
  rw [if_neg c1]
theorem far_rt {a b : List S32} {ta tb : Nat} {s : Nat × Nat} (h : FarOK a b ta tb s) (h1 : s.1 ≤ 1073741824) (h2 : s.2 ≤ 1073741824) : Rt (s.1 : Int) (s.2 : Int) :=
 ⟨by omega, by have := h.mx.pos.2; omega, by omega, by omega, h.co⟩
end Go.Proofs.Ytkemhfhmlcljjaa.DistPure
end
section
namespace Go.Proofs.Ytkemhfhmlcljjaa.PR
set_option maxRecDepth 100000
open Go.RowKit Go.Proofs.YtkemhfhmlcljjaaW.PrintWords Go.Proofs.YtkemhfhmlcljjaaW.PrintLast Go.Proofs.YtkemhfhmlcljjaaW.PrintMore
open Go.Proofs.YtkemhfhmlcljjaaW.EvKit
set_option linter.unusedVariables false
noncomputable def hushlaw2_keyed.L0 (x1 : List (S45)) (x5 : List (S45)) (x11 : List (S32)) (x12 : Int) (x13 : Int) : Option ((List (S45))) := lim (fun k => hushlaw2_keyed.l0 k x1 x5 x11 x12 x13)
theorem hushlaw2_keyed.L0_is (x1 : List (S45)) (x5 : List (S45)) (x11 : List (S32)) (x12 : Int) (x13 : Int) : LimIs (fun k => hushlaw2_keyed.l0 k x1 x5 x11 x12 x13) (hushlaw2_keyed.L0 x1 x5 x11 x12 x13) := ⟨fun k => (hushlaw2_keyed.mono_l k).1 x1 x5 x11 x12 x13, rfl⟩
noncomputable def hushlaw2_keyed.L1 (x1 : List (S45)) (x5 : List (S45)) (x6 : Int) (x8 : List (S32)) (x11 : List (S32)) (x12 : Int) (x13 : Int) (x21 : List (S32)) (x22 : Int) (x23 : Int) (x221000 : List Int) (x221001 : Int) : Option ((List (S45))) := lim (fun k => hushlaw2_keyed.l1 k x1 x5 x6 x8 x11 x12 x13 x21 x22 x23 x221000 x221001)
theorem hushlaw2_keyed.L1_is (x1 : List (S45)) (x5 : List (S45)) (x6 : Int) (x8 : List (S32)) (x11 : List (S32)) (x12 : Int) (x13 : Int) (x21 : List (S32)) (x22 : Int) (x23 : Int) (x221000 : List Int) (x221001 : Int) : LimIs (fun k => hushlaw2_keyed.l1 k x1 x5 x6 x8 x11 x12 x13 x21 x22 x23 x221000 x221001) (hushlaw2_keyed.L1 x1 x5 x6 x8 x11 x12 x13 x21 x22 x23 x221000 x221001) := ⟨fun k => (hushlaw2_keyed.mono_l k).2 x1 x5 x6 x8 x11 x12 x13 x21 x22 x23 x221000 x221001, rfl⟩
noncomputable def hushlaw2_keyed.F (l0 : List (S32)) (l1 : List (S45)) : Option ((List (S45))) := lim (fun k => hushlaw2_keyed.f k l0 l1)
theorem hushlaw2_keyed.F_is (l0 : List (S32)) (l1 : List (S45)) : LimIs (fun k => hushlaw2_keyed.f k l0 l1) (hushlaw2_keyed.F l0 l1) := ⟨fun k => hushlaw2_keyed.mono l0 l1 k, rfl⟩
theorem hushlaw2_keyed.L0_eq (x1 : List (S45)) (x5 : List (S45)) (x11 : List (S32)) (x12 : Int) (x13 : Int) : hushlaw2_keyed.L0 x1 x5 x11 x12 x13 = if x13 < x12 then (if 0 ≤ x13 then (if x13 < (x11.length : Int) then ((plain_Then.F x1 ((rd_T32 x11 x13).f0)).bind fun t221 => (hushlaw2_keyed.L1 x1 x5 x13 ([] : List (S32)) x11 x12 x13 t221 (t221.length : Int) 0 ((rd_T32 x11 x13).f0) ((rd_T32 x11 x13).f1))) else (none)) else (none)) else (some x5) := by
 refine LimIs.step' (hushlaw2_keyed.L0_is x1 x5 x11 x12 x13).1 (b := fun k => if x13 < x12 then (if 0 ≤ x13 then (if x13 < (x11.length : Int) then ((plain_Then.f k x1 ((rd_T32 x11 x13).f0)).bind fun t221 => (hushlaw2_keyed.l1 k x1 x5 x13 ([] : List (S32)) x11 x12 x13 t221 (t221.length : Int) 0 ((rd_T32 x11 x13).f0) ((rd_T32 x11 x13).f1))) else (none)) else (none)) else (some x5)) (fun k => by first | rfl | rw [hushlaw2_keyed.l0]) ?_
 repeat' first
  | (with_reducible exact plain_Then.F_is _ _)
  | (with_reducible exact hushlaw2_keyed.L1_is _ _ _ _ _ _ _ _ _ _ _ _)
  | (with_reducible exact LimIs.const _)
  | (with_reducible refine LimIs.ite ?_ ?_)
  | (with_reducible refine LimIs.bind ?_ (fun _ => ?_))
  | exact plain_Then.F_is _ _
  | exact hushlaw2_keyed.L1_is _ _ _ _ _ _ _ _ _ _ _ _
  | exact LimIs.const _
  | refine LimIs.ite ?_ ?_
  | refine LimIs.bind ?_ (fun _ => ?_)
theorem hushlaw2_keyed.L1_eq (x1 : List (S45)) (x5 : List (S45)) (x6 : Int) (x8 : List (S32)) (x11 : List (S32)) (x12 : Int) (x13 : Int) (x21 : List (S32)) (x22 : Int) (x23 : Int) (x221000 : List Int) (x221001 : Int) : hushlaw2_keyed.L1 x1 x5 x6 x8 x11 x12 x13 x21 x22 x23 x221000 x221001 = if x23 < x22 then (if 0 ≤ x23 then (if x23 < (x21.length : Int) then ((some (([x6] : List Int) : List Int)).bind fun y226 => (if y226.length + ((rd_T32 x21 x23).f0).length < 17592186044416 then (if x8.length < 4398046511104 then (hushlaw2_keyed.L1 x1 x5 x6 (x8 ++ [(⟨(y226 ++ ((rd_T32 x21 x23).f0)), (rd_T32 x21 x23).f1⟩ : S32)]) x11 x12 x13 x21 x22 (wrap64 (x23 + 1)) x221000 x221001) else (none)) else (none))) else (none)) else (none)) else (if x5.length < 2932031007402 then (hushlaw2_keyed.L0 x1 (x5 ++ [(⟨x221000, x8⟩ : S45)]) x11 x12 (wrap64 (x13 + 1))) else (none)) := by
 refine LimIs.step' (hushlaw2_keyed.L1_is x1 x5 x6 x8 x11 x12 x13 x21 x22 x23 x221000 x221001).1 (b := fun k => if x23 < x22 then (if 0 ≤ x23 then (if x23 < (x21.length : Int) then ((some (([x6] : List Int) : List Int)).bind fun y226 => (if y226.length + ((rd_T32 x21 x23).f0).length < 17592186044416 then (if x8.length < 4398046511104 then (hushlaw2_keyed.l1 k x1 x5 x6 (x8 ++ [(⟨(y226 ++ ((rd_T32 x21 x23).f0)), (rd_T32 x21 x23).f1⟩ : S32)]) x11 x12 x13 x21 x22 (wrap64 (x23 + 1)) x221000 x221001) else (none)) else (none))) else (none)) else (none)) else (if x5.length < 2932031007402 then (hushlaw2_keyed.l0 k x1 (x5 ++ [(⟨x221000, x8⟩ : S45)]) x11 x12 (wrap64 (x13 + 1))) else (none))) (fun k => by first | rfl | rw [hushlaw2_keyed.l1]) ?_
 repeat' first
  | (with_reducible exact hushlaw2_keyed.L1_is _ _ _ _ _ _ _ _ _ _ _ _)
  | (with_reducible exact hushlaw2_keyed.L0_is _ _ _ _ _)
  | (with_reducible exact LimIs.const _)
  | (with_reducible refine LimIs.ite ?_ ?_)
  | (with_reducible refine LimIs.bind ?_ (fun _ => ?_))
  | exact hushlaw2_keyed.L1_is _ _ _ _ _ _ _ _ _ _ _ _
  | exact hushlaw2_keyed.L0_is _ _ _ _ _
  | exact LimIs.const _
  | refine LimIs.ite ?_ ?_
  | refine LimIs.bind ?_ (fun _ => ?_)
theorem hushlaw2_keyed.F_eq (l0 : List (S32)) (l1 : List (S45)) : hushlaw2_keyed.F l0 l1 = hushlaw2_keyed.L0 l1 ([] : List (S45)) l0 (l0.length : Int) 0 := by
 refine LimIs.out (?_ : LimIs (fun k => hushlaw2_keyed.l0 k l1 ([] : List (S45)) l0 (l0.length : Int) 0) _)
 repeat' first
  | (with_reducible exact hushlaw2_keyed.L0_is _ _ _ _ _)
  | (with_reducible exact LimIs.const _)
  | (with_reducible refine LimIs.ite ?_ ?_)
  | (with_reducible refine LimIs.bind ?_ (fun _ => ?_))
  | exact hushlaw2_keyed.L0_is _ _ _ _ _
  | exact LimIs.const _
  | refine LimIs.ite ?_ ?_
  | refine LimIs.bind ?_ (fun _ => ?_)
end Go.Proofs.Ytkemhfhmlcljjaa.PR
end
section
namespace Go.Proofs.Ytkemhfhmlcljjaa.PR
set_option maxRecDepth 100000
open Go.RowKit Go.Proofs.YtkemhfhmlcljjaaW.PrintWords Go.Proofs.YtkemhfhmlcljjaaW.PrintLast Go.Proofs.YtkemhfhmlcljjaaW.PrintMore
open Go.Proofs.YtkemhfhmlcljjaaW.EvKit
set_option linter.unusedVariables false
noncomputable def hushlaw2_DistCompose.L0 (x0 : List (S32)) (x1 : List (S32)) (x2 : List (S45)) (x3 : List (S45)) (x32 : List (S32)) (x33 : Int) (x34 : Int) (x243000 : Int) (x243001 : Int) (x244000 : Int) (x244001 : Int) : Option (Bool) := lim (fun k => hushlaw2_DistCompose.l0 k x0 x1 x2 x3 x32 x33 x34 x243000 x243001 x244000 x244001)
theorem hushlaw2_DistCompose.L0_is (x0 : List (S32)) (x1 : List (S32)) (x2 : List (S45)) (x3 : List (S45)) (x32 : List (S32)) (x33 : Int) (x34 : Int) (x243000 : Int) (x243001 : Int) (x244000 : Int) (x244001 : Int) : LimIs (fun k => hushlaw2_DistCompose.l0 k x0 x1 x2 x3 x32 x33 x34 x243000 x243001 x244000 x244001) (hushlaw2_DistCompose.L0 x0 x1 x2 x3 x32 x33 x34 x243000 x243001 x244000 x244001) := ⟨fun k => (hushlaw2_DistCompose.mono_l k).1 x0 x1 x2 x3 x32 x33 x34 x243000 x243001 x244000 x244001, rfl⟩
noncomputable def hushlaw2_DistCompose.J1 (x16 : List (S32)) (x17 : List (S32)) (x78 : Bool) (x243000 : Int) (x243001 : Int) (x244000 : Int) (x244001 : Int) : Option (Bool) := lim (fun k => hushlaw2_DistCompose.j1 k x16 x17 x78 x243000 x243001 x244000 x244001)
theorem hushlaw2_DistCompose.J1_is (x16 : List (S32)) (x17 : List (S32)) (x78 : Bool) (x243000 : Int) (x243001 : Int) (x244000 : Int) (x244001 : Int) : LimIs (fun k => hushlaw2_DistCompose.j1 k x16 x17 x78 x243000 x243001 x244000 x244001) (hushlaw2_DistCompose.J1 x16 x17 x78 x243000 x243001 x244000 x244001) := ⟨fun k => (hushlaw2_DistCompose.mono_l k).2 x16 x17 x78 x243000 x243001 x244000 x244001, rfl⟩
noncomputable def hushlaw2_DistCompose.F (l0 : List (S32)) (l1 : List (S32)) (l2 : List (S45)) (l3 : List (S45)) : Option (Bool) := lim (fun k => hushlaw2_DistCompose.f k l0 l1 l2 l3)
theorem hushlaw2_DistCompose.F_is (l0 : List (S32)) (l1 : List (S32)) (l2 : List (S45)) (l3 : List (S45)) : LimIs (fun k => hushlaw2_DistCompose.f k l0 l1 l2 l3) (hushlaw2_DistCompose.F l0 l1 l2 l3) := ⟨fun k => hushlaw2_DistCompose.mono l0 l1 l2 l3 k, rfl⟩
theorem hushlaw2_DistCompose.L0_eq (x0 : List (S32)) (x1 : List (S32)) (x2 : List (S45)) (x3 : List (S45)) (x32 : List (S32)) (x33 : Int) (x34 : Int) (x243000 : Int) (x243001 : Int) (x244000 : Int) (x244001 : Int) : hushlaw2_DistCompose.L0 x0 x1 x2 x3 x32 x33 x34 x243000 x243001 x244000 x244001 = if x34 < x33 then (if 0 ≤ x34 then (if x34 < (x32.length : Int) then ((plain_Then.F x2 ((rd_T32 x32 x34).f0)).bind fun t246 => ((plain_Then.F x3 ((rd_T32 x32 x34).f0)).bind fun t249 => ((dist_Far.F t246 t249).bind fun bt252 => (if bt252.2.2 = 0 then ((hushref1_Most.f x244000 x244001 bt252.1 bt252.2.1).bind fun t256 => (if t256 = true then (hushlaw2_DistCompose.L0 x0 x1 x2 x3 x32 x33 (wrap64 (x34 + 1)) x243000 x243001 bt252.1 bt252.2.1) else (hushlaw2_DistCompose.L0 x0 x1 x2 x3 x32 x33 (wrap64 (x34 + 1)) x243000 x243001 x244000 x244001))) else (some true))))) else (none)) else (none)) else ((hushlaw2_keyed.F x0 x2).bind fun t257 => ((plain_Bind.F x0 t257).bind fun bt260 => ((hushlaw2_keyed.F x0 x3).bind fun t264 => ((plain_Bind.F x1 t264).bind fun bt267 => (if bt260.2 = 0 then (hushlaw2_DistCompose.J1 bt260.1 bt267.1 (bt267.2 != 0) x243000 x243001 x244000 x244001) else (hushlaw2_DistCompose.J1 bt260.1 bt267.1 true x243000 x243001 x244000 x244001)))))) := by
 refine LimIs.step' (hushlaw2_DistCompose.L0_is x0 x1 x2 x3 x32 x33 x34 x243000 x243001 x244000 x244001).1 (b := fun k => if x34 < x33 then (if 0 ≤ x34 then (if x34 < (x32.length : Int) then ((plain_Then.f k x2 ((rd_T32 x32 x34).f0)).bind fun t246 => ((plain_Then.f k x3 ((rd_T32 x32 x34).f0)).bind fun t249 => ((dist_Far.f k t246 t249).bind fun bt252 => (if bt252.2.2 = 0 then ((hushref1_Most.f x244000 x244001 bt252.1 bt252.2.1).bind fun t256 => (if t256 = true then (hushlaw2_DistCompose.l0 k x0 x1 x2 x3 x32 x33 (wrap64 (x34 + 1)) x243000 x243001 bt252.1 bt252.2.1) else (hushlaw2_DistCompose.l0 k x0 x1 x2 x3 x32 x33 (wrap64 (x34 + 1)) x243000 x243001 x244000 x244001))) else (some true))))) else (none)) else (none)) else ((hushlaw2_keyed.f k x0 x2).bind fun t257 => ((plain_Bind.f k x0 t257).bind fun bt260 => ((hushlaw2_keyed.f k x0 x3).bind fun t264 => ((plain_Bind.f k x1 t264).bind fun bt267 => (if bt260.2 = 0 then (hushlaw2_DistCompose.j1 k bt260.1 bt267.1 (bt267.2 != 0) x243000 x243001 x244000 x244001) else (hushlaw2_DistCompose.j1 k bt260.1 bt267.1 true x243000 x243001 x244000 x244001))))))) (fun k => by first | rfl | rw [hushlaw2_DistCompose.l0]) ?_
 repeat' first
  | (with_reducible exact plain_Then.F_is _ _)
  | (with_reducible exact dist_Far.F_is _ _)
  | (with_reducible exact hushlaw2_DistCompose.L0_is _ _ _ _ _ _ _ _ _ _ _)
  | (with_reducible exact hushlaw2_keyed.F_is _ _)
  | (with_reducible exact plain_Bind.F_is _ _)
  | (with_reducible exact hushlaw2_DistCompose.J1_is _ _ _ _ _ _ _)
  | (with_reducible exact LimIs.const _)
  | (with_reducible refine LimIs.ite ?_ ?_)
  | (with_reducible refine LimIs.bind ?_ (fun _ => ?_))
  | exact plain_Then.F_is _ _
  | exact dist_Far.F_is _ _
  | exact hushlaw2_DistCompose.L0_is _ _ _ _ _ _ _ _ _ _ _
  | exact hushlaw2_keyed.F_is _ _
  | exact plain_Bind.F_is _ _
  | exact hushlaw2_DistCompose.J1_is _ _ _ _ _ _ _
  | exact LimIs.const _
  | refine LimIs.ite ?_ ?_
  | refine LimIs.bind ?_ (fun _ => ?_)
theorem hushlaw2_DistCompose.J1_eq (x16 : List (S32)) (x17 : List (S32)) (x78 : Bool) (x243000 : Int) (x243001 : Int) (x244000 : Int) (x244001 : Int) : hushlaw2_DistCompose.J1 x16 x17 x78 x243000 x243001 x244000 x244001 = if x78 = true then (some true) else ((dist_Far.F x16 x17).bind fun bt271 => ((hushref1_Times.F x243000 x243001 x244000 x244001).bind fun bt275 => (if bt271.2.2 = 6 then (some false) else ((hushlaw2_most.f bt271.1 bt271.2.1 bt271.2.2 bt275.1 bt275.2.1 bt275.2.2).bind fun t279 => (some t279))))) := by
 refine LimIs.step' (hushlaw2_DistCompose.J1_is x16 x17 x78 x243000 x243001 x244000 x244001).1 (b := fun k => if x78 = true then (some true) else ((dist_Far.f k x16 x17).bind fun bt271 => ((hushref1_Times.f k x243000 x243001 x244000 x244001).bind fun bt275 => (if bt271.2.2 = 6 then (some false) else ((hushlaw2_most.f bt271.1 bt271.2.1 bt271.2.2 bt275.1 bt275.2.1 bt275.2.2).bind fun t279 => (some t279)))))) (fun k => by first | rfl | rw [hushlaw2_DistCompose.j1]) ?_
 repeat' first
  | (with_reducible exact dist_Far.F_is _ _)
  | (with_reducible exact hushref1_Times.F_is _ _ _ _)
  | (with_reducible exact LimIs.const _)
  | (with_reducible refine LimIs.ite ?_ ?_)
  | (with_reducible refine LimIs.bind ?_ (fun _ => ?_))
  | exact dist_Far.F_is _ _
  | exact hushref1_Times.F_is _ _ _ _
  | exact LimIs.const _
  | refine LimIs.ite ?_ ?_
  | refine LimIs.bind ?_ (fun _ => ?_)
theorem hushlaw2_DistCompose.F_eq (l0 : List (S32)) (l1 : List (S32)) (l2 : List (S45)) (l3 : List (S45)) : hushlaw2_DistCompose.F l0 l1 l2 l3 = (hushlaw2_alive.F).bind fun t238 => (if t238 = true then ((dist_Far.F l0 l1).bind fun bt239 => (if bt239.2.2 = 0 then (hushlaw2_DistCompose.L0 l0 l1 l2 l3 l0 (l0.length : Int) 0 bt239.1 bt239.2.1 1 1) else (some true))) else (some false)) := by
 refine LimIs.out (?_ : LimIs (fun k => (hushlaw2_alive.f k).bind fun t238 => (if t238 = true then ((dist_Far.f k l0 l1).bind fun bt239 => (if bt239.2.2 = 0 then (hushlaw2_DistCompose.l0 k l0 l1 l2 l3 l0 (l0.length : Int) 0 bt239.1 bt239.2.1 1 1) else (some true))) else (some false))) _)
 repeat' first
  | (with_reducible exact hushlaw2_alive.F_is)
  | (with_reducible exact dist_Far.F_is _ _)
  | (with_reducible exact hushlaw2_DistCompose.L0_is _ _ _ _ _ _ _ _ _ _ _)
  | (with_reducible exact LimIs.const _)
  | (with_reducible refine LimIs.ite ?_ ?_)
  | (with_reducible refine LimIs.bind ?_ (fun _ => ?_))
  | exact hushlaw2_alive.F_is
  | exact dist_Far.F_is _ _
  | exact hushlaw2_DistCompose.L0_is _ _ _ _ _ _ _ _ _ _ _
  | exact LimIs.const _
  | refine LimIs.ite ?_ ?_
  | refine LimIs.bind ?_ (fun _ => ?_)
end Go.Proofs.Ytkemhfhmlcljjaa.PR
end
section
namespace Go.Proofs.Ytkemhfhmlcljjaa.DistPure
set_option linter.unusedVariables false
set_option linter.unusedSimpArgs false
open Go.RowKit Go.Proofs.Ytkemhfhmlcljjaa.PR Go.Proofs.YtkemhfhmlcljjaaW.PrintWords Go.Proofs.YtkemhfhmlcljjaaW.PrintLast Go.Proofs.YtkemhfhmlcljjaaW.PrintMore Go.Proofs.YtkemhfhmlcljjaaW.EvKit
theorem bulk_fb : ∀ (l : List S45), l.length ≤ (l.map (fun p1z => ((((p1z.f0.map (fun p1z_f0z => 1)).sum + 1) + ((p1z.f1.map (fun p1z_f1z => ((((p1z_f1z.f0.map (fun p1z_f1z_f0z => 1)).sum + 1) + 1) + 1))).sum + 1)) + 1))).sum ∧ ∀ p ∈ l, p.f0.length ≤ (l.map (fun p1z => ((((p1z.f0.map (fun p1z_f0z => 1)).sum + 1) + ((p1z.f1.map (fun p1z_f1z => ((((p1z_f1z.f0.map (fun p1z_f1z_f0z => 1)).sum + 1) + 1) + 1))).sum + 1)) + 1))).sum ∧ p.f1.length ≤ (l.map (fun p1z => ((((p1z.f0.map (fun p1z_f0z => 1)).sum + 1) + ((p1z.f1.map (fun p1z_f1z => ((((p1z_f1z.f0.map (fun p1z_f1z_f0z => 1)).sum + 1) + 1) + 1))).sum + 1)) + 1))).sum ∧ ∀ q ∈ p.f1, q.f0.length ≤ (l.map (fun p1z => ((((p1z.f0.map (fun p1z_f0z => 1)).sum + 1) + ((p1z.f1.map (fun p1z_f1z => ((((p1z_f1z.f0.map (fun p1z_f1z_f0z => 1)).sum + 1) + 1) + 1))).sum + 1)) + 1))).sum
 | [] => ⟨by simp, fun p hp => by cases hp⟩
 | q :: l => by
  obtain ⟨h1, h2⟩ := bulk_fb l
  obtain ⟨h3, h4⟩ := bulk_bd q.f1
  rw [List.map_cons, List.sum_cons, ones]
  refine ⟨by rw [List.length_cons]; omega, fun p hp => ?_⟩
  rcases List.mem_cons.1 hp with e | e
  ·
   rw [e]
   exact ⟨by omega, by omega, fun z hz => by have := h4 z hz; omega⟩
  ·
   obtain ⟨k1, k2, k3⟩ := h2 p e
   exact ⟨by omega, by omega, fun z hz => by have := k3 z hz; omega⟩
theorem bulk_in : ∀ (l : List S32), ∀ p ∈ l, p.f0.length + 3 ≤ (l.map (fun z => ((((z.f0.map (fun _ => 1)).sum + 1) + 1) + 1))).sum
 | [], p, hp => by cases hp
 | q :: l, p, hp => by
  rw [List.map_cons, List.sum_cons, ones]
  rcases List.mem_cons.1 hp with e | e
  ·
   rw [e]; omega
  ·
   have := bulk_in l p e
   omega
theorem bulk_in2 : ∀ (l : List S45), ∀ p ∈ l, ∀ q ∈ p.f1, q.f0.length + 3 ≤ (l.map (fun p1z => ((((p1z.f0.map (fun p1z_f0z => 1)).sum + 1) + ((p1z.f1.map (fun p1z_f1z => ((((p1z_f1z.f0.map (fun p1z_f1z_f0z => 1)).sum + 1) + 1) + 1))).sum + 1)) + 1))).sum
 | [], p, hp, _, _ => by cases hp
 | r :: l, p, hp, q, hq => by
  rw [List.map_cons, List.sum_cons]
  rcases List.mem_cons.1 hp with e | e
  ·
   rw [e] at hq
   have := bulk_in r.f1 q hq
   omega
  ·
   have := bulk_in2 l p e q hq
   omega
def keyRow (i : Int) (t : List S32) : List S32 := t.map (fun q => (⟨i :: q.f0, q.f1⟩ : S32))
def keyL (f : List S45) : Nat → List S32 → List S45
 | _, [] => []
 | i, p :: d => ⟨p.f0, keyRow (i : Int) (thenP f p.f0)⟩ :: keyL f (i + 1) d
structure FBr (f : List S45) (a : List S32) : Prop where
 fb : FBd f
 bd : Bd a
 out : ∀ p ∈ a, p.f0.length ≤ 1048570
 row : ∀ p ∈ f, ∀ q ∈ p.f1, q.f0.length ≤ 1048570
theorem then_room {f : List S45} {o : List Int} (h : ∀ p ∈ f, ∀ q ∈ p.f1, q.f0.length ≤ 1048570) (ho : o.length ≤ 1048570) : ∀ q ∈ thenP f o, q.f0.length ≤ 1048570 := by
 induction f with
 | nil =>
  intro q hq
  rw [thenP, List.mem_singleton] at hq
  rw [hq]; exact ho
 | cons p f ih =>
  rw [thenP]
  split
  ·
   exact h p (by simp)
  ·
   exact ih (fun q hq => h q (by simp [hq]))
theorem keyed_row (f x5 : List S45) (a t : List S32) (i : Nat) (o : List Int) (w : Int) (ht : t.length ≤ 1048576) (hr : ∀ q ∈ t, q.f0.length ≤ 1048570) (h5 : x5.length ≤ 1048576) : ∀ (m j : Nat) (acc : List S32), j + m = t.length → acc.length + m ≤ 1048576 →
  hushlaw2_keyed.L1 f x5 (i : Int) acc a (a.length : Int) (i : Int) t (t.length : Int) (j : Int) o w = hushlaw2_keyed.L0 f (x5 ++ [(⟨o, acc ++ keyRow (i : Int) (t.drop j)⟩ : S45)]) a (a.length : Int) (wrap64 ((i : Int) + 1)) := by
 intro m
 induction m with
 | zero =>
  intro j acc hj _
  rw [hushlaw2_keyed.L1_eq, if_neg (by omega), if_pos (by omega), List.drop_of_length_le (by omega)]
  unfold keyRow
  rw [List.map_nil, List.append_nil]
 | succ m ih =>
  intro j acc hj hm
  have hx : j < t.length := by omega
  have h2 := hr _ (List.getElem_mem hx)
  rw [hushlaw2_keyed.L1_eq, if_pos (by omega), if_pos (by omega), if_pos (by omega), rd32At hx, Option.bind_some, if_pos (by rw [List.length_singleton]; omega), if_pos (by omega), w1 (by omega), ih (j + 1) _ (by omega) (by rw [List.length_append, List.length_singleton]; omega), List.drop_eq_getElem_cons hx]
  unfold keyRow
  rw [List.map_cons, List.append_assoc, List.singleton_append, List.singleton_append]
theorem keyed_loop {f : List S45} {a : List S32} (h : FBr f a) : ∀ (m i : Nat) (acc : List S45), i + m = a.length → acc.length + m ≤ 1048576 →
  hushlaw2_keyed.L0 f acc a (a.length : Int) (i : Int) = some (acc ++ keyL f i (a.drop i)) := by
 have hl := h.bd.len
 intro m
 induction m with
 | zero =>
  intro i acc hi _
  rw [hushlaw2_keyed.L0_eq, if_neg (by omega), List.drop_of_length_le (by omega), keyL, List.append_nil]
 | succ m ih =>
  intro i acc hi hm
  have hx : i < a.length := by omega
  have hp := List.getElem_mem hx
  have hb := thenP_bd f a[i].f0 h.fb.bd (h.bd.out _ hp)
  rw [hushlaw2_keyed.L0_eq, if_pos (by omega), if_pos (by omega), if_pos (by omega), rd32At hx, thenF f h.fb, Option.bind_some,
   show (0 : Int) = ((0 : Nat) : Int) from rfl, keyed_row f acc a _ i _ _ hb.len (then_room h.row (h.out _ hp)) (by omega) _ 0 [] (Nat.zero_add _) (by have := hb.len; rw [List.length_nil]; omega), List.drop_zero, List.nil_append, w1 (by omega), ih (i + 1) _ (by omega) (by rw [List.length_append, List.length_singleton]; omega), List.drop_eq_getElem_cons hx, keyL, List.append_assoc, List.singleton_append]
theorem keyedF {f : List S45} {a : List S32} (h : FBr f a) : hushlaw2_keyed.F a f = some (keyL f 0 a) := by
 have hl := h.bd.len
 rw [hushlaw2_keyed.F_eq]
 exact keyed_loop h a.length 0 [] (Nat.zero_add _) (by rw [List.length_nil]; omega)
theorem keyRow_bd {t : List S32} {i : Int} (h : t.length ≤ 1048576) (hr : ∀ q ∈ t, q.f0.length ≤ 1048570) : Bd (keyRow i t) := by
 unfold keyRow
 refine ⟨by rw [List.length_map]; exact h, fun p hp => ?_⟩
 obtain ⟨q, hq, rfl⟩ := List.mem_map.1 hp
 have := hr q hq
 rw [List.length_cons]
 omega
theorem keyL_bd {f : List S45} {a : List S32} (h : FBr f a) : FBd (keyL f 0 a) := by
 have key : ∀ (d : List S32) (i : Nat), (∀ p ∈ d, p ∈ a) → (keyL f i d).length = d.length ∧ ∀ p ∈ keyL f i d, p.f0.length ≤ 1048576 ∧ Bd p.f1 := by
  intro d
  induction d with
  | nil => exact fun _ _ => ⟨rfl, fun p hp => by cases hp⟩
  | cons q d ih =>
   intro i hd
   obtain ⟨h1, h2⟩ := ih (i + 1) (fun p hp => hd p (by simp [hp]))
   have hq := hd q (by simp)
   rw [keyL]
   refine ⟨by rw [List.length_cons, List.length_cons, h1], fun p hp => ?_⟩
   rcases List.mem_cons.1 hp with e | e
   ·
    rw [e]
    have hb := thenP_bd f q.f0 h.fb.bd (h.bd.out _ hq)
    exact ⟨h.bd.out _ hq, keyRow_bd hb.len (then_room h.row (h.out _ hq))⟩
   ·
    exact h2 p e
 obtain ⟨h1, h2⟩ := key a 0 (fun p hp => hp)
 have hl := h.bd.len
 exact ⟨by omega, fun p hp => (h2 p hp).1, fun p hp => (h2 p hp).2⟩
theorem then_key (f g : List S45) (z : List Int) : ∀ (d : List S32) (n : Nat), z ∈ d.map (·.f0) → ∃ i : Int, thenP (keyL f n d) z = keyRow i (thenP f z) ∧ thenP (keyL g n d) z = keyRow i (thenP g z)
 | [], _, h => by cases h
 | p :: d, n, h => by
  rw [keyL, keyL, thenP, thenP]
  by_cases c : p.f0 = z
  ·
   rw [if_pos c, if_pos c, c]
   exact ⟨(n : Int), rfl, rfl⟩
  ·
   rw [if_neg c, if_neg c]
   refine then_key f g z d (n + 1) ?_
   rw [List.map_cons, List.mem_cons] at h
   rcases h with e | e
   ·
    exact absurd e.symm c
   ·
    exact e
theorem key_E (K : List Int → Rat) (i : Int) (t : List S32) : eE K (keyRow i t) = eE (fun o => K (i :: o)) t := by
 have h1 : ∀ t : List S32, eS K (keyRow i t) = eS (fun o => K (i :: o)) t := by
  intro t
  induction t with
  | nil => rfl
  | cons q t ih =>
   have e : keyRow i (q :: t) = ⟨i :: q.f0, q.f1⟩ :: keyRow i t := rfl
   rw [e, eS, eS, ih]
 have h2 : ∀ t : List S32, totOf (keyRow i t) = totOf t := by
  intro t
  induction t with
  | nil => rfl
  | cons q t ih =>
   have e : keyRow i (q :: t) = ⟨i :: q.f0, q.f1⟩ :: keyRow i t := rfl
   rw [e, totOf_cons, totOf_cons, ih]
 unfold eE
 rw [h1, h2]
theorem inv_nn' {t : Int} (h : 0 ≤ t) : (0 : Rat) ≤ ((t : Int) : Rat)⁻¹ := by
 by_cases c : 0 < t
 ·
  exact inv_nn c
 ·
  have : t = 0 := by omega
  rw [this, Rat.intCast_zero, Rat.inv_zero]
  grind
theorem eE_nn' {K : List Int → Rat} (hK : ∀ o, 0 ≤ K o) {l : List S32} (h : ∀ p ∈ l, 0 ≤ p.f1) : 0 ≤ eE K l := by
 unfold eE
 rw [Rat.div_def]
 exact Rat.mul_nonneg (eS_nn K hK l h) (inv_nn' (tot_ge h))
theorem then_nn {l : List S45} (h : ∀ p ∈ l, ∀ q ∈ p.f1, 0 ≤ q.f1) (z : List Int) : ∀ q ∈ thenP l z, 0 ≤ q.f1 := by
 induction l with
 | nil =>
  intro q hq
  rw [thenP, List.mem_singleton] at hq
  rw [hq]
  show (0 : Int) ≤ 1
  decide
 | cons p l ih =>
  rw [thenP]
  split
  ·
   exact h p (by simp)
  ·
   exact ih (fun q hq => h q (by simp [hq]))
theorem keyL_nn {f : List S45} : ∀ (d : List S32) (i : Nat), (∀ p ∈ d, ∀ q ∈ thenP f p.f0, 0 ≤ q.f1) → ∀ p ∈ keyL f i d, ∀ q ∈ p.f1, 0 ≤ q.f1
 | [], _, _ => fun p hp => by cases hp
 | r :: d, i, h => by
  intro p hp
  rw [keyL] at hp
  rcases List.mem_cons.1 hp with e | e
  ·
   rw [e]
   intro q hq
   unfold keyRow at hq
   obtain ⟨z, hz, rfl⟩ := List.mem_map.1 hq
   exact h r (by simp) z hz
  ·
   exact keyL_nn d (i + 1) (fun q hq => h q (by simp [hq])) p e
theorem comp_le {a b : List S32} {f g : List S45} (hf : FBr f a) (hg : FBr g a) {ta tb : Nat} {r : Nat × Nat} (F : FarOK a b ta tb r) {B : Rat} (hB : 0 ≤ B)
  (H : ∀ p ∈ a, ∃ t1 t2 s, FarOK (thenP f p.f0) (thenP g p.f0) t1 t2 s ∧ fr s ≤ B) (hx : (bindP (keyL f 0 a) a).2 = 0) (hy : (bindP (keyL g 0 a) b).2 = 0) (o : List Int) :
  eE (eI o) (bindP (keyL f 0 a) a).1 ≤ fr r * B * eE (eI o) (bindP (keyL g 0 a) b).1 ∧ eE (eI o) (bindP (keyL g 0 a) b).1 ≤ fr r * B * eE (eI o) (bindP (keyL f 0 a) a).1 := by
 have ha := F.two.a
 have hb := F.two.b
 rw [bind_E (keyL_bd hf) ha.bd hx, bind_E (keyL_bd hg) hb.bd hy]
 have hr := F.fr1
 have nf : ∀ p ∈ a, ∀ q ∈ thenP f p.f0, 0 ≤ q.f1 := fun p hp => by
  obtain ⟨_, _, _, G, _⟩ := H p hp
  exact G.two.a.nn
 have ng : ∀ p ∈ a, ∀ q ∈ thenP g p.f0, 0 ≤ q.f1 := fun p hp => by
  obtain ⟨_, _, _, G, _⟩ := H p hp
  exact G.two.b.nn
 have X0 : ∀ z, 0 ≤ eE (eI o) (thenP (keyL f 0 a) z) := fun z => eE_nn' (eI_nn o) (then_nn (keyL_nn a 0 nf) z)
 have Y0 : ∀ z, 0 ≤ eE (eI o) (thenP (keyL g 0 a) z) := fun z => eE_nn' (eI_nn o) (then_nn (keyL_nn a 0 ng) z)
 have XY : ∀ p ∈ a, eE (eI o) (thenP (keyL f 0 a) p.f0) ≤ B * eE (eI o) (thenP (keyL g 0 a) p.f0) ∧ eE (eI o) (thenP (keyL g 0 a) p.f0) ≤ B * eE (eI o) (thenP (keyL f 0 a) p.f0) := fun p hp => by
  obtain ⟨t1, t2, s, G, hs⟩ := H p hp
  obtain ⟨i, e1, e2⟩ := then_key f g p.f0 a 0 (List.mem_map.2 ⟨p, hp, rfl⟩)
  rw [e1, e2, key_E, key_E]
  have k0 : ∀ z, 0 ≤ eI o (i :: z) := fun z => eI_nn o _
  have l1 := eE_le G.two.a G.two.b G.fr1 (fun z => (G.le z).1) k0
  have l2 := eE_le G.two.b G.two.a G.fr1 (fun z => (G.le z).2) k0
  have m1 := Rat.mul_le_mul_of_nonneg_right hs (eE_nn' k0 G.two.b.nn)
  have m2 := Rat.mul_le_mul_of_nonneg_right hs (eE_nn' k0 G.two.a.nn)
  exact ⟨Rat.le_trans l1 m1, Rat.le_trans l2 m2⟩
 have s1 := eE_mono ha (K := fun x => eE (eI o) (thenP (keyL f 0 a) x)) (K' := fun x => B * eE (eI o) (thenP (keyL g 0 a) x)) (fun p hp => (XY p hp).1)
 have s2 := eE_mono ha (K := fun x => eE (eI o) (thenP (keyL g 0 a) x)) (K' := fun x => B * eE (eI o) (thenP (keyL f 0 a) x)) (fun p hp => (XY p hp).2)
 rw [eE_cmul] at s1 s2
 have s3 := eE_le ha hb hr (fun z => (F.le z).1) Y0
 have s4 := eE_le hb ha hr (fun z => (F.le z).2) Y0
 have s5 := Rat.mul_le_mul_of_nonneg_left s3 hB
 have s6 := Rat.mul_le_mul_of_nonneg_left s2 hr
 constructor
 ·
  exact Rat.le_trans s1 (Rat.le_trans s5 (by rw [← Rat.mul_assoc, Rat.mul_comm B]; exact Rat.le_refl))
 ·
  exact Rat.le_trans s4 (Rat.le_trans s6 (by rw [← Rat.mul_assoc]; exact Rat.le_refl))
theorem fr_le {s : Nat × Nat} {u d : Int} (hs : 1 ≤ s.2) (hd : 1 ≤ d) (h : (s.1 : Int) * d ≤ u * (s.2 : Int)) : fr s ≤ (u : Rat) / (d : Rat) := by
 have q0 : (0 : Rat) < ((s.2 : Int) : Rat) := by exact_mod_cast (show (0 : Int) < (s.2 : Int) by omega)
 have d0 : (0 : Rat) < (d : Rat) := by exact_mod_cast (show (0 : Int) < d by omega)
 have h1 : ((s.1 : Int) : Rat) * (d : Rat) ≤ (u : Rat) * ((s.2 : Int) : Rat) := by exact_mod_cast h
 have h2 := Rat.mul_le_mul_of_nonneg_right h1 (Rat.mul_nonneg (Rat.le_of_lt (Rat.inv_pos.2 q0)) (Rat.le_of_lt (Rat.inv_pos.2 d0)))
 have e1 : ((s.1 : Int) : Rat) * (d : Rat) * (((s.2 : Int) : Rat)⁻¹ * (d : Rat)⁻¹) = fr s := by unfold fr; grind
 have e2 : (u : Rat) * ((s.2 : Int) : Rat) * (((s.2 : Int) : Rat)⁻¹ * (d : Rat)⁻¹) = (u : Rat) / (d : Rat) := by grind
 rw [e1, e2] at h2
 exact h2
theorem fr_ge {s r : Nat × Nat} {u d : Int} (hs : 1 ≤ s.2) (hr : 1 ≤ r.2) (hd : 1 ≤ d) (h : fr s ≤ fr r * ((u : Rat) / (d : Rat))) : (s.1 : Int) * ((r.2 : Int) * d) ≤ ((r.1 : Int) * u) * (s.2 : Int) := by
 have q0 : (0 : Rat) < ((s.2 : Int) : Rat) := by exact_mod_cast (show (0 : Int) < (s.2 : Int) by omega)
 have r0 : (0 : Rat) < ((r.2 : Int) : Rat) := by exact_mod_cast (show (0 : Int) < (r.2 : Int) by omega)
 have d0 : (0 : Rat) < (d : Rat) := by exact_mod_cast (show (0 : Int) < d by omega)
 have h2 := Rat.mul_le_mul_of_nonneg_right h (Rat.le_of_lt (Rat.mul_pos q0 (Rat.mul_pos r0 d0)))
 have e1 : fr s * (((s.2 : Int) : Rat) * (((r.2 : Int) : Rat) * (d : Rat))) = ((s.1 : Int) : Rat) * (((r.2 : Int) : Rat) * (d : Rat)) := by unfold fr; grind
 have e2 : fr r * ((u : Rat) / (d : Rat)) * (((s.2 : Int) : Rat) * (((r.2 : Int) : Rat) * (d : Rat))) = ((r.1 : Int) : Rat) * (u : Rat) * ((s.2 : Int) : Rat) := by unfold fr; grind
 rw [e1, e2] at h2
 exact_mod_cast h2
theorem comp_end {a b : List S32} {f g : List S45} (hf : FBr f a) (hg : FBr g a) {ta tb : Nat} {r : Nat × Nat} (F : FarOK a b ta tb r) (r1 : r.1 ≤ 1073741824) (r2 : r.2 ≤ 1073741824) {u d : Int} (hu : Rt u d) (h1 : d ≤ u)
  (H : ∀ p ∈ a, ∃ t1 t2 s, FarOK (thenP f p.f0) (thenP g p.f0) t1 t2 s ∧ (s.1 : Int) * d ≤ u * (s.2 : Int)) (hx : (bindP (keyL f 0 a) a).2 = 0) (hy : (bindP (keyL g 0 a) b).2 = 0) :
  hushlaw2_DistCompose.J1 (bindP (keyL f 0 a) a).1 (bindP (keyL g 0 a) b).1 false (r.1 : Int) (r.2 : Int) u d = some true := by
 have d1 := hu.d1
 have u0 := hu.u0
 have X := bind_right (keyL_bd hf) F.two.a.bd hx
 have Y := bind_right (keyL_bd hg) F.two.b.bd hy
 have hB : (0 : Rat) ≤ (u : Rat) / (d : Rat) := by rw [Rat.div_def]; exact Rat.mul_nonneg (cast_nn u0) (inv_nn (by omega))
 have hle := comp_le hf hg F hB (fun p hp => by
  obtain ⟨t1, t2, s, G, hs⟩ := H p hp
  exact ⟨t1, t2, s, G, fr_le G.mx.pos.2 d1 hs⟩) hx hy
 have hR1 : (1 : Rat) ≤ fr r * ((u : Rat) / (d : Rat)) := by
  have ho := F.mx.one
  have hp := F.mx.pos.2
  unfold le2 at ho
  have q0 : (0 : Rat) < ((r.2 : Int) : Rat) := by exact_mod_cast (show (0 : Int) < (r.2 : Int) by omega)
  have d0 : (0 : Rat) < (d : Rat) := by exact_mod_cast (show (0 : Int) < d by omega)
  have e0 : (r.2 : Int) * d ≤ (r.1 : Int) * u := Int.mul_le_mul (by omega) h1 (by omega) (by omega)
  have e1 : ((r.2 : Int) : Rat) * (d : Rat) ≤ ((r.1 : Int) : Rat) * (u : Rat) := by exact_mod_cast e0
  have e2 := Rat.mul_le_mul_of_nonneg_right e1 (Rat.mul_nonneg (Rat.le_of_lt (Rat.inv_pos.2 q0)) (Rat.le_of_lt (Rat.inv_pos.2 d0)))
  have e3 : ((r.2 : Int) : Rat) * (d : Rat) * (((r.2 : Int) : Rat)⁻¹ * (d : Rat)⁻¹) = 1 := by grind
  have e4 : ((r.1 : Int) : Rat) * (u : Rat) * (((r.2 : Int) : Rat)⁻¹ * (d : Rat)⁻¹) = fr r * ((u : Rat) / (d : Rat)) := by unfold fr; grind
  rw [e3, e4] at e2
  exact e2
 have hn := no_of ⟨X, Y⟩ hle
 obtain ⟨tx, ty, s, S, es⟩ := far_mk X.bd Y.bd X.wr Y.wr hn
 have hs := S.sup hR1 hle
 have R1 := far_rt F r1 r2
 rw [hushlaw2_DistCompose.J1_eq, if_neg (by decide), farF _ _ X.bd Y.bd, Option.bind_some, r1timesF R1 hu, Option.bind_some, es, if_neg (by unfold farOut; split <;> (dsimp only; omega))]
 rw [mostF _ _ (fun x1 x2 => ?_), Option.bind_some]
 obtain ⟨y1, y2, y3⟩ := farOut_ok x1
 rw [y1]
 dsimp only at x2 ⊢
 generalize hp : makeS ((r.1 : Int) * u) ((r.2 : Int) * d) = p at *
 obtain ⟨p1, p2, p3⟩ := p
 dsimp only at x2 ⊢
 subst x2
 obtain ⟨z1, z2, z3, z4⟩ := makeS_ok hp
 refine ⟨far_rt S y2 y3, z3, ?_⟩
 have hle' := fr_ge S.mx.pos.2 F.mx.pos.2 d1 hs
 generalize (r.2 : Int) * d = M at *
 generalize (r.1 : Int) * u = K at *
 have h3 : (s.1 : Int) * p2 * M ≤ p1 * (s.2 : Int) * M := by
  calc (s.1 : Int) * p2 * M = (s.1 : Int) * M * p2 := by grind
   _ ≤ K * (s.2 : Int) * p2 := Int.mul_le_mul_of_nonneg_right hle' (by have := z3.d1; omega)
   _ = K * p2 * (s.2 : Int) := by grind
   _ = p1 * M * (s.2 : Int) := by rw [z4]
   _ = p1 * (s.2 : Int) * M := by grind
 exact Int.le_of_mul_le_mul_right h3 (by omega)
theorem comp_loop {a b : List S32} {f g : List S45} (hf : FBr f a) (hg : FBr g a) {ta tb : Nat} {r : Nat × Nat} (F : FarOK a b ta tb r) (r1 : r.1 ≤ 1073741824) (r2 : r.2 ≤ 1073741824) : ∀ (m i : Nat) (u d : Int), i + m = a.length → Rt u d → d ≤ u →
  (∀ p ∈ a.take i, ∃ t1 t2 s, FarOK (thenP f p.f0) (thenP g p.f0) t1 t2 s ∧ (s.1 : Int) * d ≤ u * (s.2 : Int)) →
  hushlaw2_DistCompose.L0 a b f g a (a.length : Int) (i : Int) (r.1 : Int) (r.2 : Int) u d = some true := by
 have hl := hf.bd.len
 have hb := F.two.b.bd
 intro m
 induction m with
 | zero =>
  intro i u d hi hu h1 H
  rw [List.take_of_length_le (by omega)] at H
  rw [hushlaw2_DistCompose.L0_eq, if_neg (by omega), keyedF hf, Option.bind_some, bindF _ (keyL_bd hf) _ hf.bd, Option.bind_some, keyedF hg, Option.bind_some, bindF _ (keyL_bd hg) _ hb, Option.bind_some]
  have jt : ∀ x y, hushlaw2_DistCompose.J1 x y true (r.1 : Int) (r.2 : Int) u d = some true := fun x y => by rw [hushlaw2_DistCompose.J1_eq, if_pos rfl]
  by_cases c1 : (bindP (keyL f 0 a) a).2 = 0
  ·
   rw [if_pos c1]
   by_cases c2 : (bindP (keyL g 0 a) b).2 = 0
   ·
    rw [show ((bindP (keyL g 0 a) b).2 != 0) = false from by rw [c2]; rfl]
    exact comp_end hf hg F r1 r2 hu h1 H c1 c2
   ·
    rw [show ((bindP (keyL g 0 a) b).2 != 0) = true from bne_iff_ne.2 c2, jt]
  ·
   rw [if_neg c1, jt]
 | succ m ih =>
  intro i u d hi hu h1 H
  have hx : i < a.length := by omega
  have hp := List.getElem_mem hx
  have b1 := thenP_bd f a[i].f0 hf.fb.bd (hf.bd.out _ hp)
  have b2 := thenP_bd g a[i].f0 hg.fb.bd (hf.bd.out _ hp)
  rw [hushlaw2_DistCompose.L0_eq, if_pos (by omega), if_pos (by omega), if_pos (by omega), rd32At hx, thenF f hf.fb, Option.bind_some, thenF g hg.fb, Option.bind_some, farF _ _ b1 b2, Option.bind_some]
  by_cases c : (farP (thenP f a[i].f0) (thenP g a[i].f0)).2.2 = 0
  ·
   obtain ⟨t1, t2, s, S, es, s1, s2⟩ := far_yes b1 b2 c
   have R := far_rt S s1 s2
   have m1 := mul_bd hu.u0 hu.u2 (show 0 ≤ (s.2 : Int) by omega) (by omega)
   have m2 := mul_bd (show 0 ≤ (s.1 : Int) by omega) (by omega) (show 0 ≤ d by have := hu.d1; omega) hu.d2
   have hmost : hushref1_Most.f u d (s.1 : Int) (s.2 : Int) = some (decide (u * (s.2 : Int) ≤ (s.1 : Int) * d)) := by
    unfold hushref1_Most.f
    rw [wrap64_of (by omega) (by omega), wrap64_of (by omega) (by omega)]
   rw [if_pos c, es]
   dsimp only
   rw [hmost, Option.bind_some, w1 (by omega)]
   have next : ∀ (U D : Int), (s.1 : Int) * D ≤ U * (s.2 : Int) → (∀ p ∈ a.take i, ∃ t1 t2 s, FarOK (thenP f p.f0) (thenP g p.f0) t1 t2 s ∧ (s.1 : Int) * D ≤ U * (s.2 : Int)) → ∀ p ∈ a.take (i + 1), ∃ t1 t2 s, FarOK (thenP f p.f0) (thenP g p.f0) t1 t2 s ∧ (s.1 : Int) * D ≤ U * (s.2 : Int) := fun U D k1 k2 p hp => by
    rw [List.take_succ_eq_append_getElem hx, List.mem_append, List.mem_singleton] at hp
    rcases hp with e | e
    ·
     exact k2 p e
    ·
     rw [e]; exact ⟨t1, t2, s, S, k1⟩
   by_cases c2 : u * (s.2 : Int) ≤ (s.1 : Int) * d
   ·
    rw [decide_eq_true c2, if_pos rfl]
    have ho := S.mx.one
    unfold le2 at ho
    refine ih (i + 1) _ _ (by omega) R (by omega) (next _ _ (Int.le_refl _) (fun p hp => ?_))
    obtain ⟨q1, q2, z, Z, hz⟩ := H p hp
    refine ⟨q1, q2, z, Z, ?_⟩
    -- z1 * d <= u * z2, u * s2 <= s1 * d
    have d1 := hu.d1
    have e1 : (z.1 : Int) * (s.2 : Int) * d ≤ (s.1 : Int) * (z.2 : Int) * d := by
     calc (z.1 : Int) * (s.2 : Int) * d = (z.1 : Int) * d * (s.2 : Int) := by grind
      _ ≤ u * (z.2 : Int) * (s.2 : Int) := Int.mul_le_mul_of_nonneg_right hz (by omega)
      _ = u * (s.2 : Int) * (z.2 : Int) := by grind
      _ ≤ (s.1 : Int) * d * (z.2 : Int) := Int.mul_le_mul_of_nonneg_right c2 (by omega)
      _ = (s.1 : Int) * (z.2 : Int) * d := by grind
    exact Int.le_of_mul_le_mul_right e1 (by omega)
   ·
    rw [decide_eq_false c2, if_neg (by decide)]
    exact ih (i + 1) _ _ (by omega) hu h1 (next _ _ (by omega) H)
  ·
   rw [if_neg c]
end Go.Proofs.Ytkemhfhmlcljjaa.DistPure
namespace Go.Proofs.Ytkemhfhmlcljjaa.Pure
open Go.RowKit Go.Proofs.Ytkemhfhmlcljjaa.PR Go.Proofs.YtkemhfhmlcljjaaW.PrintWords Go.Proofs.YtkemhfhmlcljjaaW.PrintLast Go.Proofs.YtkemhfhmlcljjaaW.PrintMore Go.Proofs.YtkemhfhmlcljjaaW.EvKit Go.Proofs.Ytkemhfhmlcljjaa.DistPure
theorem DistCompose : hushlaw2_DistCompose.Pure := by
 intro a b f g h0 h1 h2 h3 hk
 have b0 := bulk_bd a
 have b1 := bulk_bd b
 have b2 := bulk_fb f
 have b3 := bulk_fb g
 have ha : Bd a := ⟨by omega, fun p hp => by have := b0.2 p hp; omega⟩
 have hb : Bd b := ⟨by omega, fun p hp => by have := b1.2 p hp; omega⟩
 have hao : ∀ p ∈ a, p.f0.length ≤ 1048570 := fun p hp => by
  have k := (bulk_in a p hp)
  omega
 have hf : FBr f a := ⟨⟨by omega, fun p hp => by have := (b2.2 p hp).1; omega, fun p hp => ⟨by have := (b2.2 p hp).2.1; omega, fun q hq => by have := (b2.2 p hp).2.2 q hq; omega⟩⟩, ha, hao, fun p hp q hq => by have := bulk_in2 f p hp q hq; omega⟩
 have hg : FBr g a := ⟨⟨by omega, fun p hp => by have := (b3.2 p hp).1; omega, fun p hp => ⟨by have := (b3.2 p hp).2.1; omega, fun q hq => by have := (b3.2 p hp).2.2 q hq; omega⟩⟩, ha, hao, fun p hp q hq => by have := bulk_in2 g p hp q hq; omega⟩
 clear hk b0 b1 b2 b3 h0 h1 h2 h3
 refine (hushlaw2_DistCompose.F_is a b f g).rounds ?_
 rw [hushlaw2_DistCompose.F_eq, aliveF, Option.bind_some, if_pos rfl, farF a b ha hb, Option.bind_some]
 by_cases c : (farP a b).2.2 = 0
 ·
  obtain ⟨ta, tb, r, F, e, r1, r2⟩ := far_yes ha hb c
  rw [if_pos c, e]
  exact comp_loop hf hg F r1 r2 a.length 0 1 1 (Nat.zero_add _) ⟨by decide, by decide, by decide, by decide, by decide⟩ (by decide) (fun p hp => by rw [List.take_zero] at hp; cases hp)
 ·
  rw [if_neg c]
end Go.Proofs.Ytkemhfhmlcljjaa.Pure
end

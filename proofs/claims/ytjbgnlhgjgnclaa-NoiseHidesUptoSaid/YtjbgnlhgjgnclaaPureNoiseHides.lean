/- The pure texts of this claim, its functions behind all rounds among them, and small steps. Conditions stand in each theorem. -/
import Derived.Test.YtjbgnlhgjgnclaaPBx6
import Derived.Test.YtjbgnlhgjgnclaaLim
import Derived.Test.YtjbgnlhgjgnclaaPBx0
import Derived.Test.YtjbgnlhgjgnclaaPBx2
import Derived.Test.YtjbgnlhgjgnclaaPBx5
import Derived.Test.YtjbgnlhgjgnclaaPBx16
import Derived.Test.YtjbgnlhgjgnclaaPBx10
import Derived.Test.YtjbgnlhgjgnclaaPBx15
import Derived.Test.YtjbgnlhgjgnclaaPBx11
import Derived.Test.YtjbgnlhgjgnclaaPBx14
import Derived.Test.YtjbgnlhgjgnclaaPBx12
import Derived.Test.YtjbgnlhgjgnclaaPBx9
import Derived.Test.YtjbgnlhgjgnclaaPBx13
import Derived.Test.YtjbgnlhgjgnclaaPBx8
import Derived.Test.YtjbgnlhgjgnclaaPBx7
import Derived.Test.YtjbgnlhgjgnclaaPBx19
import Derived.Test.YtjbgnlhgjgnclaaPBx18
import Derived.Test.YtjbgnlhgjgnclaaPBx20
import Derived.Test.YtjbgnlhgjgnclaaEvKit
import Derived.Test.YtjbgnlhgjgnclaaPBx17
import Derived.Test.YtjbgnlhgjgnclaaPBx22
import Derived.Test.YtjbgnlhgjgnclaaPBx23
import Derived.Test.YtjbgnlhgjgnclaaPBx24
import Derived.Test.YtjbgnlhgjgnclaaPBx1
section
namespace Go.Proofs.Ytjbgnlhgjgnclaa.PB
set_option maxRecDepth 100000
open Go.RowKit Go.Proofs.YtjbgnlhgjgnclaaW.PrintWords Go.Proofs.YtjbgnlhgjgnclaaW.PrintLast Go.Proofs.YtjbgnlhgjgnclaaW.PrintMore
open Go.Proofs.YtjbgnlhgjgnclaaW.EvKit
set_option linter.unusedVariables false
noncomputable def ratio_gcd.L0 (x0 : Int) (x1 : Int) : Option (Int) := lim (fun k => ratio_gcd.l0 k x0 x1)
theorem ratio_gcd.L0_is (x0 : Int) (x1 : Int) : LimIs (fun k => ratio_gcd.l0 k x0 x1) (ratio_gcd.L0 x0 x1) := ⟨fun k => (ratio_gcd.mono_l k) x0 x1, rfl⟩
noncomputable def slices_IndexFunc_int_int.L0 (x0 : List Int) (x7 : Int) (x8 : Int) : Option (Int) := lim (fun k => slices_IndexFunc_int_int.l0 k x0 x7 x8)
theorem slices_IndexFunc_int_int.L0_is (x0 : List Int) (x7 : Int) (x8 : Int) : LimIs (fun k => slices_IndexFunc_int_int.l0 k x0 x7 x8) (slices_IndexFunc_int_int.L0 x0 x7 x8) := ⟨fun k => (slices_IndexFunc_int_int.mono_l k) x0 x7 x8, rfl⟩
noncomputable def ratio_gcd.F (a0 : Int) (a1 : Int) : Option (Int) := lim (fun k => ratio_gcd.f k a0 a1)
theorem ratio_gcd.F_is (a0 : Int) (a1 : Int) : LimIs (fun k => ratio_gcd.f k a0 a1) (ratio_gcd.F a0 a1) := ⟨fun k => ratio_gcd.mono a0 a1 k, rfl⟩
noncomputable def ratio_Right.F (a0_0 : Int) (a0_1 : Int) : Option (Bool) := lim (fun k => ratio_Right.f k a0_0 a0_1)
theorem ratio_Right.F_is (a0_0 : Int) (a0_1 : Int) : LimIs (fun k => ratio_Right.f k a0_0 a0_1) (ratio_Right.F a0_0 a0_1) := ⟨fun k => ratio_Right.mono a0_0 a0_1 k, rfl⟩
noncomputable def noise_loss.F (a0_0 : Int) (a0_1 : Int) : Option (Int) := lim (fun k => noise_loss.f k a0_0 a0_1)
theorem noise_loss.F_is (a0_0 : Int) (a0_1 : Int) : LimIs (fun k => noise_loss.f k a0_0 a0_1) (noise_loss.F a0_0 a0_1) := ⟨fun k => noise_loss.mono a0_0 a0_1 k, rfl⟩
noncomputable def slices_IndexFunc_int_int.F (l0 : List Int) (a1 : Int) : Option (Int) := lim (fun k => slices_IndexFunc_int_int.f k l0 a1)
theorem slices_IndexFunc_int_int.F_is (l0 : List Int) (a1 : Int) : LimIs (fun k => slices_IndexFunc_int_int.f k l0 a1) (slices_IndexFunc_int_int.F l0 a1) := ⟨fun k => slices_IndexFunc_int_int.mono l0 a1 k, rfl⟩
noncomputable def slices_ContainsFunc_int_int.F (l0 : List Int) (a1 : Int) : Option (Bool) := lim (fun k => slices_ContainsFunc_int_int.f k l0 a1)
theorem slices_ContainsFunc_int_int.F_is (l0 : List Int) (a1 : Int) : LimIs (fun k => slices_ContainsFunc_int_int.f k l0 a1) (slices_ContainsFunc_int_int.F l0 a1) := ⟨fun k => slices_ContainsFunc_int_int.mono l0 a1 k, rfl⟩
noncomputable def dist_small.F (l0 : List Int) : Option (Bool) := lim (fun k => dist_small.f k l0)
theorem dist_small.F_is (l0 : List Int) : LimIs (fun k => dist_small.f k l0) (dist_small.F l0) := ⟨fun k => dist_small.mono l0 k, rfl⟩
theorem ratio_gcd.L0_eq (x0 : Int) (x1 : Int) : ratio_gcd.L0 x0 x1 = if x1 = 0 then (some x0) else (ratio_gcd.L0 x1 (Int.tmod x0 x1)) := by
 refine LimIs.step' (ratio_gcd.L0_is x0 x1).1 (b := fun k => if x1 = 0 then (some x0) else (ratio_gcd.l0 k x1 (Int.tmod x0 x1))) (fun k => by rfl) ?_
 repeat' first
  | (with_reducible exact ratio_gcd.L0_is _ _)
  | (with_reducible exact LimIs.const _)
  | (with_reducible refine LimIs.ite ?_ ?_)
theorem slices_IndexFunc_int_int.L0_eq (x0 : List Int) (x7 : Int) (x8 : Int) : slices_IndexFunc_int_int.L0 x0 x7 x8 = if x8 < x7 then (if 0 ≤ x8 then (if x8 < (x0.length : Int) then ((dist_small_1.f (rd x0 x8)).bind fun t106 => (if t106 = true then (some x8) else (slices_IndexFunc_int_int.L0 x0 x7 (wrap64 (x8 + 1))))) else (none)) else (none)) else (some (-1)) := by
 refine LimIs.step' (slices_IndexFunc_int_int.L0_is x0 x7 x8).1 (b := fun k => if x8 < x7 then (if 0 ≤ x8 then (if x8 < (x0.length : Int) then ((dist_small_1.f (rd x0 x8)).bind fun t106 => (if t106 = true then (some x8) else (slices_IndexFunc_int_int.l0 k x0 x7 (wrap64 (x8 + 1))))) else (none)) else (none)) else (some (-1))) (fun k => by rfl) ?_
 repeat' first
  | (with_reducible exact slices_IndexFunc_int_int.L0_is _ _ _)
  | (with_reducible exact LimIs.const _)
  | (with_reducible refine LimIs.ite ?_ ?_)
  | (with_reducible refine LimIs.bind ?_ (fun _ => ?_))
theorem ratio_gcd.F_eq (a0 : Int) (a1 : Int) : ratio_gcd.F a0 a1 = ratio_gcd.L0 a0 a1 := by
 refine LimIs.out (?_ : LimIs (fun k => ratio_gcd.l0 k a0 a1) _)
 repeat' (with_reducible exact ratio_gcd.L0_is _ _)
theorem ratio_Right.F_eq (a0_0 : Int) (a0_1 : Int) : ratio_Right.F a0_0 a0_1 = if a0_0 ≥ 0 then (if a0_1 ≥ 1 then (if a0_0 ≤ 1073741824 then (if a0_1 ≤ 1073741824 then ((ratio_gcd.F a0_0 a0_1).bind fun t102 => (some (t102 == 1))) else (some false)) else (some false)) else (some false)) else (some false) := by
 refine LimIs.out (?_ : LimIs (fun k => if a0_0 ≥ 0 then (if a0_1 ≥ 1 then (if a0_0 ≤ 1073741824 then (if a0_1 ≤ 1073741824 then ((ratio_gcd.f k a0_0 a0_1).bind fun t102 => (some (t102 == 1))) else (some false)) else (some false)) else (some false)) else (some false)) _)
 repeat' first
  | (with_reducible exact ratio_gcd.F_is _ _)
  | (with_reducible exact LimIs.const _)
  | (with_reducible refine LimIs.ite ?_ ?_)
  | (with_reducible refine LimIs.bind ?_ (fun _ => ?_))
theorem noise_loss.F_eq (a0_0 : Int) (a0_1 : Int) : noise_loss.F a0_0 a0_1 = (ratio_Right.F a0_0 a0_1).bind fun t104 => (if t104 = true then (if a0_0 < a0_1 then (some (3 : Int)) else (some (0 : Int))) else (some (2 : Int))) := by
 refine LimIs.out (?_ : LimIs (fun k => (ratio_Right.f k a0_0 a0_1).bind fun t104 => (if t104 = true then (if a0_0 < a0_1 then (some (3 : Int)) else (some (0 : Int))) else (some (2 : Int)))) _)
 repeat' first
  | (with_reducible exact ratio_Right.F_is _ _)
  | (with_reducible exact LimIs.const _)
  | (with_reducible refine LimIs.bind ?_ (fun _ => ?_))
theorem slices_IndexFunc_int_int.F_eq (l0 : List Int) (a1 : Int) : slices_IndexFunc_int_int.F l0 a1 = slices_IndexFunc_int_int.L0 l0 (l0.length : Int) 0 := by
 refine LimIs.out (?_ : LimIs (fun k => slices_IndexFunc_int_int.l0 k l0 (l0.length : Int) 0) _)
 repeat' (with_reducible exact slices_IndexFunc_int_int.L0_is _ _ _)
theorem slices_ContainsFunc_int_int.F_eq (l0 : List Int) (a1 : Int) : slices_ContainsFunc_int_int.F l0 a1 = (slices_IndexFunc_int_int.F l0 a1).bind fun t107 => (some (decide (t107 ≥ 0))) := by
 refine LimIs.out (?_ : LimIs (fun k => (slices_IndexFunc_int_int.f k l0 a1).bind fun t107 => (some (decide (t107 ≥ 0)))) _)
 repeat' first
  | (with_reducible exact slices_IndexFunc_int_int.F_is _ _)
  | (with_reducible exact LimIs.const _)
  | (with_reducible refine LimIs.bind ?_ (fun _ => ?_))
theorem dist_small.F_eq (l0 : List Int) : dist_small.F l0 = if (l0.length : Int) ≤ 16 then ((slices_ContainsFunc_int_int.F l0 990000075).bind fun t108 => (some (!t108))) else (some false) := by
 refine LimIs.out (?_ : LimIs (fun k => if (l0.length : Int) ≤ 16 then ((slices_ContainsFunc_int_int.f k l0 990000075).bind fun t108 => (some (!t108))) else (some false)) _)
 repeat' first
  | (with_reducible exact slices_ContainsFunc_int_int.F_is _ _)
  | (with_reducible exact LimIs.const _)
  | (with_reducible refine LimIs.ite ?_ ?_)
  | (with_reducible refine LimIs.bind ?_ (fun _ => ?_))
end Go.Proofs.Ytjbgnlhgjgnclaa.PB
end
section
namespace Go.Proofs.Ytjbgnlhgjgnclaa.PB
set_option maxRecDepth 100000
open Go.RowKit Go.Proofs.YtjbgnlhgjgnclaaW.PrintWords Go.Proofs.YtjbgnlhgjgnclaaW.PrintLast Go.Proofs.YtjbgnlhgjgnclaaW.PrintMore
open Go.Proofs.YtjbgnlhgjgnclaaW.EvKit
set_option linter.unusedVariables false
noncomputable def dist_tidy.F (l0 : List S64) : Option (List S64 × Int) := lim (fun k => dist_tidy.f k l0)
theorem dist_tidy.F_is (l0 : List S64) : LimIs (fun k => dist_tidy.f k l0) (dist_tidy.F l0) := ⟨fun k => dist_tidy.mono l0 k, rfl⟩
theorem dist_tidy.F_eq (l0 : List S64) : dist_tidy.F l0 = if tGuard l0 = true then some (tDone (tMerge (sortP l0))) else none := by
 refine LimIs.out (?_ : LimIs (fun k => if tGuard l0 = true then some (tDone (tMerge (sortP l0))) else none) _)
 repeat' (with_reducible exact LimIs.const _)
end Go.Proofs.Ytjbgnlhgjgnclaa.PB
end
section
namespace Go.Proofs.Ytjbgnlhgjgnclaa.PB
set_option maxRecDepth 100000
open Go.RowKit Go.Proofs.YtjbgnlhgjgnclaaW.PrintWords Go.Proofs.YtjbgnlhgjgnclaaW.PrintLast Go.Proofs.YtjbgnlhgjgnclaaW.PrintMore
open Go.Proofs.YtjbgnlhgjgnclaaW.EvKit
set_option linter.unusedVariables false
noncomputable def dist_Make.L0 (x4 : List (S64)) (x7 : List (S64)) (x8 : Int) (x9 : Int) : Option ((List (S64)) × Int) := lim (fun k => dist_Make.l0 k x4 x7 x8 x9)
theorem dist_Make.L0_is (x4 : List (S64)) (x7 : List (S64)) (x8 : Int) (x9 : Int) : LimIs (fun k => dist_Make.l0 k x4 x7 x8 x9) (dist_Make.L0 x4 x7 x8 x9) := ⟨fun k => (dist_Make.mono_l k) x4 x7 x8 x9, rfl⟩
noncomputable def noise_power.L0 (x0 : Int) (x5 : Int) (x6 : Int) (x7 : Int) : Option (Int) := lim (fun k => noise_power.l0 k x0 x5 x6 x7)
theorem noise_power.L0_is (x0 : Int) (x5 : Int) (x6 : Int) (x7 : Int) : LimIs (fun k => noise_power.l0 k x0 x5 x6 x7) (noise_power.L0 x0 x5 x6 x7) := ⟨fun k => (noise_power.mono_l k) x0 x5 x6 x7, rfl⟩
noncomputable def dist_Make.F (l0 : List (S64)) : Option ((List (S64)) × Int) := lim (fun k => dist_Make.f k l0)
theorem dist_Make.F_is (l0 : List (S64)) : LimIs (fun k => dist_Make.f k l0) (dist_Make.F l0) := ⟨fun k => dist_Make.mono l0 k, rfl⟩
noncomputable def dist_Sure.F (l0 : List Int) : Option ((List (S64)) × Int) := lim (fun k => dist_Sure.f k l0)
theorem dist_Sure.F_is (l0 : List Int) : LimIs (fun k => dist_Sure.f k l0) (dist_Sure.F l0) := ⟨fun k => dist_Sure.mono l0 k, rfl⟩
noncomputable def noise_power.F (a0 : Int) (a1 : Int) : Option (Int) := lim (fun k => noise_power.f k a0 a1)
theorem noise_power.F_is (a0 : Int) (a1 : Int) : LimIs (fun k => noise_power.f k a0 a1) (noise_power.F a0 a1) := ⟨fun k => noise_power.mono a0 a1 k, rfl⟩
theorem dist_Make.L0_eq (x4 : List (S64)) (x7 : List (S64)) (x8 : Int) (x9 : Int) : dist_Make.L0 x4 x7 x8 x9 = if x9 < x8 then (if 0 ≤ x9 then (if x9 < (x7.length : Int) then ((dist_small.F ((rd_T64 x7 x9).f0)).bind fun t124 => (if t124 = true then (if ((rd_T64 x7 x9).f1) < 0 then (some (([] : List (S64)), 3)) else (if ((rd_T64 x7 x9).f1) > 1073741824 then (some (([] : List (S64)), 3)) else ((slices_Clone_int_int.f ((rd_T64 x7 x9).f0)).bind fun t125 => (if x4.length < 4398046511104 then (dist_Make.L0 (x4 ++ [(⟨t125, (rd_T64 x7 x9).f1⟩ : S64)]) x7 x8 (wrap64 (x9 + 1))) else (none))))) else (some (([] : List (S64)), 3)))) else (none)) else (none)) else ((dist_tidy.F x4).bind fun bt118 => (some (bt118.1, bt118.2))) := by
 refine LimIs.step' (dist_Make.L0_is x4 x7 x8 x9).1 (b := fun k => if x9 < x8 then (if 0 ≤ x9 then (if x9 < (x7.length : Int) then ((dist_small.f k ((rd_T64 x7 x9).f0)).bind fun t124 => (if t124 = true then (if ((rd_T64 x7 x9).f1) < 0 then (some (([] : List (S64)), 3)) else (if ((rd_T64 x7 x9).f1) > 1073741824 then (some (([] : List (S64)), 3)) else ((slices_Clone_int_int.f ((rd_T64 x7 x9).f0)).bind fun t125 => (if x4.length < 4398046511104 then (dist_Make.l0 k (x4 ++ [(⟨t125, (rd_T64 x7 x9).f1⟩ : S64)]) x7 x8 (wrap64 (x9 + 1))) else (none))))) else (some (([] : List (S64)), 3)))) else (none)) else (none)) else ((dist_tidy.f k x4).bind fun bt118 => (some (bt118.1, bt118.2)))) (fun k => by rfl) ?_
 repeat' first
  | (with_reducible exact dist_small.F_is _)
  | (with_reducible exact dist_Make.L0_is _ _ _ _)
  | (with_reducible exact dist_tidy.F_is _)
  | (with_reducible exact LimIs.const _)
  | (with_reducible refine LimIs.ite ?_ ?_)
  | (with_reducible refine LimIs.bind ?_ (fun _ => ?_))
theorem noise_power.L0_eq (x0 : Int) (x5 : Int) (x6 : Int) (x7 : Int) : noise_power.L0 x0 x5 x6 x7 = if x7 < x6 then (if (wrap64 (x5 * x0)) > 1073741824 then (some 1073741825) else (noise_power.L0 x0 (wrap64 (x5 * x0)) x6 (wrap64 (x7 + 1)))) else (some x5) := by
 refine LimIs.step' (noise_power.L0_is x0 x5 x6 x7).1 (b := fun k => if x7 < x6 then (if (wrap64 (x5 * x0)) > 1073741824 then (some 1073741825) else (noise_power.l0 k x0 (wrap64 (x5 * x0)) x6 (wrap64 (x7 + 1)))) else (some x5)) (fun k => by rfl) ?_
 repeat' first
  | (with_reducible exact noise_power.L0_is _ _ _ _)
  | (with_reducible exact LimIs.const _)
  | (with_reducible refine LimIs.ite ?_ ?_)
theorem dist_Make.F_eq (l0 : List (S64)) : dist_Make.F l0 = dist_Make.L0 ([] : List (S64)) l0 (l0.length : Int) 0 := by
 refine LimIs.out (?_ : LimIs (fun k => dist_Make.l0 k ([] : List (S64)) l0 (l0.length : Int) 0) _)
 repeat' (with_reducible exact dist_Make.L0_is _ _ _ _)
theorem dist_Sure.F_eq (l0 : List Int) : dist_Sure.F l0 = (dist_Make.F (([(⟨l0, 1⟩ : S64)] : List (S64)))).bind fun bt134 => (some (bt134.1, bt134.2)) := by
 refine LimIs.out (?_ : LimIs (fun k => (dist_Make.f k (([(⟨l0, 1⟩ : S64)] : List (S64)))).bind fun bt134 => (some (bt134.1, bt134.2))) _)
 repeat' first
  | (with_reducible exact dist_Make.F_is _)
  | (with_reducible exact LimIs.const _)
  | (with_reducible refine LimIs.bind ?_ (fun _ => ?_))
theorem noise_power.F_eq (a0 : Int) (a1 : Int) : noise_power.F a0 a1 = noise_power.L0 a0 1 a1 0 := by
 refine LimIs.out (?_ : LimIs (fun k => noise_power.l0 k a0 1 a1 0) _)
 repeat' (with_reducible exact noise_power.L0_is _ _ _ _)
end Go.Proofs.Ytjbgnlhgjgnclaa.PB
end
section
namespace Go.Proofs.Ytjbgnlhgjgnclaa.PB
set_option maxRecDepth 100000
open Go.RowKit Go.Proofs.YtjbgnlhgjgnclaaW.PrintWords Go.Proofs.YtjbgnlhgjgnclaaW.PrintLast Go.Proofs.YtjbgnlhgjgnclaaW.PrintMore
open Go.Proofs.YtjbgnlhgjgnclaaW.EvKit
set_option linter.unusedVariables false
noncomputable def hushref1_Divisor.J1 (x0 : Int) (x1 : Int) (x5 : Int) : Option (Int) := lim (fun k => hushref1_Divisor.j1 k x0 x1 x5)
theorem hushref1_Divisor.J1_is (x0 : Int) (x1 : Int) (x5 : Int) : LimIs (fun k => hushref1_Divisor.j1 k x0 x1 x5) (hushref1_Divisor.J1 x0 x1 x5) := ⟨fun k => (hushref1_Divisor.mono_l k).1 x0 x1 x5, rfl⟩
noncomputable def hushref1_Divisor.L1 (x0 : Int) (x1 : Int) (x5 : Int) : Option (Int) := lim (fun k => hushref1_Divisor.l1 k x0 x1 x5)
theorem hushref1_Divisor.L1_is (x0 : Int) (x1 : Int) (x5 : Int) : LimIs (fun k => hushref1_Divisor.l1 k x0 x1 x5) (hushref1_Divisor.L1 x0 x1 x5) := ⟨fun k => (hushref1_Divisor.mono_l k).2.1 x0 x1 x5, rfl⟩
noncomputable def hushref1_Divisor.L2 (x0 : Int) (x5 : Int) : Option (Int) := lim (fun k => hushref1_Divisor.l2 k x0 x5)
theorem hushref1_Divisor.L2_is (x0 : Int) (x5 : Int) : LimIs (fun k => hushref1_Divisor.l2 k x0 x5) (hushref1_Divisor.L2 x0 x5) := ⟨fun k => (hushref1_Divisor.mono_l k).2.2.1 x0 x5, rfl⟩
noncomputable def hushref1_Divisor.L0 (x0 : Int) (x1 : Int) (x5 : Int) : Option (Int) := lim (fun k => hushref1_Divisor.l0 k x0 x1 x5)
theorem hushref1_Divisor.L0_is (x0 : Int) (x1 : Int) (x5 : Int) : LimIs (fun k => hushref1_Divisor.l0 k x0 x1 x5) (hushref1_Divisor.L0 x0 x1 x5) := ⟨fun k => (hushref1_Divisor.mono_l k).2.2.2 x0 x1 x5, rfl⟩
noncomputable def hushref1_Divisor.F (a0 : Int) (a1 : Int) : Option (Int) := lim (fun k => hushref1_Divisor.f k a0 a1)
theorem hushref1_Divisor.F_is (a0 : Int) (a1 : Int) : LimIs (fun k => hushref1_Divisor.f k a0 a1) (hushref1_Divisor.F a0 a1) := ⟨fun k => hushref1_Divisor.mono a0 a1 k, rfl⟩
noncomputable def hushref1_Right.F (a0_0 : Int) (a0_1 : Int) : Option (Bool) := lim (fun k => hushref1_Right.f k a0_0 a0_1)
theorem hushref1_Right.F_is (a0_0 : Int) (a0_1 : Int) : LimIs (fun k => hushref1_Right.f k a0_0 a0_1) (hushref1_Right.F a0_0 a0_1) := ⟨fun k => hushref1_Right.mono a0_0 a0_1 k, rfl⟩
noncomputable def hushref6_Loss.F (a0_0 : Int) (a0_1 : Int) : Option (Int) := lim (fun k => hushref6_Loss.f k a0_0 a0_1)
theorem hushref6_Loss.F_is (a0_0 : Int) (a0_1 : Int) : LimIs (fun k => hushref6_Loss.f k a0_0 a0_1) (hushref6_Loss.F a0_0 a0_1) := ⟨fun k => hushref6_Loss.mono a0_0 a0_1 k, rfl⟩
theorem hushref1_Divisor.J1_eq (x0 : Int) (x1 : Int) (x5 : Int) : hushref1_Divisor.J1 x0 x1 x5 = hushref1_Divisor.L1 x0 x1 x5 := by
 refine LimIs.step' (hushref1_Divisor.J1_is x0 x1 x5).1 (b := fun k => hushref1_Divisor.l1 k x0 x1 x5) (fun k => by rfl) ?_
 repeat' (with_reducible exact hushref1_Divisor.L1_is _ _ _)
theorem hushref1_Divisor.L1_eq (x0 : Int) (x1 : Int) (x5 : Int) : hushref1_Divisor.L1 x0 x1 x5 = if x0 = x1 then (hushref1_Divisor.L2 x0 x5) else (if (Int.tmod x0 2) = 0 then (hushref1_Divisor.L1 (wrap64 (Int.tdiv x0 2)) x1 x5) else (if (Int.tmod x1 2) = 0 then (hushref1_Divisor.L1 x0 (wrap64 (Int.tdiv x1 2)) x5) else (if x0 > x1 then (hushref1_Divisor.L1 (wrap64 (x0 - x1)) x1 x5) else (hushref1_Divisor.L1 x0 (wrap64 (x1 - x0)) x5)))) := by
 refine LimIs.step' (hushref1_Divisor.L1_is x0 x1 x5).1 (b := fun k => if x0 = x1 then (hushref1_Divisor.l2 k x0 x5) else (if (Int.tmod x0 2) = 0 then (hushref1_Divisor.l1 k (wrap64 (Int.tdiv x0 2)) x1 x5) else (if (Int.tmod x1 2) = 0 then (hushref1_Divisor.l1 k x0 (wrap64 (Int.tdiv x1 2)) x5) else (if x0 > x1 then (hushref1_Divisor.l1 k (wrap64 (x0 - x1)) x1 x5) else (hushref1_Divisor.l1 k x0 (wrap64 (x1 - x0)) x5))))) (fun k => by rfl) ?_
 repeat' first
  | (with_reducible exact hushref1_Divisor.L2_is _ _)
  | (with_reducible exact hushref1_Divisor.L1_is _ _ _)
  | (with_reducible refine LimIs.ite ?_ ?_)
theorem hushref1_Divisor.L2_eq (x0 : Int) (x5 : Int) : hushref1_Divisor.L2 x0 x5 = if x5 > 0 then (hushref1_Divisor.L2 (wrap64 (2 * x0)) (wrap64 (x5 - 1))) else (some x0) := by
 refine LimIs.step' (hushref1_Divisor.L2_is x0 x5).1 (b := fun k => if x5 > 0 then (hushref1_Divisor.l2 k (wrap64 (2 * x0)) (wrap64 (x5 - 1))) else (some x0)) (fun k => by rfl) ?_
 repeat' first
  | (with_reducible exact hushref1_Divisor.L2_is _ _)
  | (with_reducible exact LimIs.const _)
  | (with_reducible refine LimIs.ite ?_ ?_)
theorem hushref1_Divisor.L0_eq (x0 : Int) (x1 : Int) (x5 : Int) : hushref1_Divisor.L0 x0 x1 x5 = if (Int.tmod x0 2) = 0 then (if (Int.tmod x1 2) = 0 then (hushref1_Divisor.L0 (wrap64 (Int.tdiv x0 2)) (wrap64 (Int.tdiv x1 2)) (wrap64 (x5 + 1))) else (hushref1_Divisor.J1 x0 x1 x5)) else (hushref1_Divisor.J1 x0 x1 x5) := by
 refine LimIs.step' (hushref1_Divisor.L0_is x0 x1 x5).1 (b := fun k => if (Int.tmod x0 2) = 0 then (if (Int.tmod x1 2) = 0 then (hushref1_Divisor.l0 k (wrap64 (Int.tdiv x0 2)) (wrap64 (Int.tdiv x1 2)) (wrap64 (x5 + 1))) else (hushref1_Divisor.j1 k x0 x1 x5)) else (hushref1_Divisor.j1 k x0 x1 x5)) (fun k => by rfl) ?_
 repeat' first
  | (with_reducible exact hushref1_Divisor.L0_is _ _ _)
  | (with_reducible exact hushref1_Divisor.J1_is _ _ _)
  | (with_reducible refine LimIs.ite ?_ ?_)
theorem hushref1_Divisor.F_eq (a0 : Int) (a1 : Int) : hushref1_Divisor.F a0 a1 = if a0 = 0 then (some a1) else (hushref1_Divisor.L0 a0 a1 0) := by
 refine LimIs.out (?_ : LimIs (fun k => if a0 = 0 then (some a1) else (hushref1_Divisor.l0 k a0 a1 0)) _)
 repeat' first
  | (with_reducible exact hushref1_Divisor.L0_is _ _ _)
  | (with_reducible exact LimIs.const _)
  | (with_reducible refine LimIs.ite ?_ ?_)
theorem hushref1_Right.F_eq (a0_0 : Int) (a0_1 : Int) : hushref1_Right.F a0_0 a0_1 = if a0_0 ≥ 0 then (if a0_1 ≥ 1 then (if a0_0 ≤ 1073741824 then (if a0_1 ≤ 1073741824 then ((hushref1_Divisor.F a0_0 a0_1).bind fun t185 => (some (t185 == 1))) else (some false)) else (some false)) else (some false)) else (some false) := by
 refine LimIs.out (?_ : LimIs (fun k => if a0_0 ≥ 0 then (if a0_1 ≥ 1 then (if a0_0 ≤ 1073741824 then (if a0_1 ≤ 1073741824 then ((hushref1_Divisor.f k a0_0 a0_1).bind fun t185 => (some (t185 == 1))) else (some false)) else (some false)) else (some false)) else (some false)) _)
 repeat' first
  | (with_reducible exact hushref1_Divisor.F_is _ _)
  | (with_reducible exact LimIs.const _)
  | (with_reducible refine LimIs.ite ?_ ?_)
  | (with_reducible refine LimIs.bind ?_ (fun _ => ?_))
theorem hushref6_Loss.F_eq (a0_0 : Int) (a0_1 : Int) : hushref6_Loss.F a0_0 a0_1 = (hushref1_Right.F a0_0 a0_1).bind fun t187 => (if t187 = true then (if a0_0 < a0_1 then (some (3 : Int)) else (some (0 : Int))) else (some (2 : Int))) := by
 refine LimIs.out (?_ : LimIs (fun k => (hushref1_Right.f k a0_0 a0_1).bind fun t187 => (if t187 = true then (if a0_0 < a0_1 then (some (3 : Int)) else (some (0 : Int))) else (some (2 : Int)))) _)
 repeat' first
  | (with_reducible exact hushref1_Right.F_is _ _)
  | (with_reducible exact LimIs.const _)
  | (with_reducible refine LimIs.bind ?_ (fun _ => ?_))
end Go.Proofs.Ytjbgnlhgjgnclaa.PB
end
section
namespace Go.Proofs.Ytjbgnlhgjgnclaa.PB
set_option maxRecDepth 100000
open Go.RowKit Go.Proofs.YtjbgnlhgjgnclaaW.PrintWords Go.Proofs.YtjbgnlhgjgnclaaW.PrintLast Go.Proofs.YtjbgnlhgjgnclaaW.PrintMore
open Go.Proofs.YtjbgnlhgjgnclaaW.EvKit
set_option linter.unusedVariables false
noncomputable def hushref2_Small.L0 (x8 : List Int) (x9 : Int) (x10 : Int) : Option (Bool) := lim (fun k => hushref2_Small.l0 k x8 x9 x10)
theorem hushref2_Small.L0_is (x8 : List Int) (x9 : Int) (x10 : Int) : LimIs (fun k => hushref2_Small.l0 k x8 x9 x10) (hushref2_Small.L0 x8 x9 x10) := ⟨fun k => (hushref2_Small.mono_l k) x8 x9 x10, rfl⟩
noncomputable def hushref2_Small.F (l0 : List Int) : Option (Bool) := lim (fun k => hushref2_Small.f k l0)
theorem hushref2_Small.F_is (l0 : List Int) : LimIs (fun k => hushref2_Small.f k l0) (hushref2_Small.F l0) := ⟨fun k => hushref2_Small.mono l0 k, rfl⟩
theorem hushref2_Small.L0_eq (x8 : List Int) (x9 : Int) (x10 : Int) : hushref2_Small.L0 x8 x9 x10 = if x10 < x9 then (if 0 ≤ x10 then (if x10 < (x8.length : Int) then (if (rd x8 x10) > 1073741824 then (some false) else (if (rd x8 x10) < (-1073741824) then (some false) else (hushref2_Small.L0 x8 x9 (wrap64 (x10 + 1))))) else (none)) else (none)) else (some true) := by
 refine LimIs.step' (hushref2_Small.L0_is x8 x9 x10).1 (b := fun k => if x10 < x9 then (if 0 ≤ x10 then (if x10 < (x8.length : Int) then (if (rd x8 x10) > 1073741824 then (some false) else (if (rd x8 x10) < (-1073741824) then (some false) else (hushref2_Small.l0 k x8 x9 (wrap64 (x10 + 1))))) else (none)) else (none)) else (some true)) (fun k => by rfl) ?_
 repeat' first
  | (with_reducible exact hushref2_Small.L0_is _ _ _)
  | (with_reducible exact LimIs.const _)
  | (with_reducible refine LimIs.ite ?_ ?_)
theorem hushref2_Small.F_eq (l0 : List Int) : hushref2_Small.F l0 = if (l0.length : Int) > 16 then (some false) else (hushref2_Small.L0 l0 (l0.length : Int) 0) := by
 refine LimIs.out (?_ : LimIs (fun k => if (l0.length : Int) > 16 then (some false) else (hushref2_Small.l0 k l0 (l0.length : Int) 0)) _)
 repeat' first
  | (with_reducible exact hushref2_Small.L0_is _ _ _)
  | (with_reducible exact LimIs.const _)
  | (with_reducible refine LimIs.ite ?_ ?_)
end Go.Proofs.Ytjbgnlhgjgnclaa.PB
end
section
namespace Go.Proofs.Ytjbgnlhgjgnclaa.PB
set_option maxRecDepth 100000
open Go.RowKit Go.Proofs.YtjbgnlhgjgnclaaW.PrintWords Go.Proofs.YtjbgnlhgjgnclaaW.PrintLast Go.Proofs.YtjbgnlhgjgnclaaW.PrintMore
open Go.Proofs.YtjbgnlhgjgnclaaW.EvKit
set_option linter.unusedVariables false
noncomputable def hushref2_Compare.L0 (x0 : List Int) (x1 : List Int) (x7 : Int) (x8 : Int) : Option (Int) := lim (fun k => hushref2_Compare.l0 k x0 x1 x7 x8)
theorem hushref2_Compare.L0_is (x0 : List Int) (x1 : List Int) (x7 : Int) (x8 : Int) : LimIs (fun k => hushref2_Compare.l0 k x0 x1 x7 x8) (hushref2_Compare.L0 x0 x1 x7 x8) := ⟨fun k => (hushref2_Compare.mono_l k) x0 x1 x7 x8, rfl⟩
noncomputable def hushref2_Same.L0 (x0 : List (S64)) (x1 : List (S64)) (x12 : Int) (x13 : Int) : Option (Bool) := lim (fun k => hushref2_Same.l0 k x0 x1 x12 x13)
theorem hushref2_Same.L0_is (x0 : List (S64)) (x1 : List (S64)) (x12 : Int) (x13 : Int) : LimIs (fun k => hushref2_Same.l0 k x0 x1 x12 x13) (hushref2_Same.L0 x0 x1 x12 x13) := ⟨fun k => (hushref2_Same.mono_l k) x0 x1 x12 x13, rfl⟩
noncomputable def hushref2_Compare.F (l0 : List Int) (l1 : List Int) : Option (Int) := lim (fun k => hushref2_Compare.f k l0 l1)
theorem hushref2_Compare.F_is (l0 : List Int) (l1 : List Int) : LimIs (fun k => hushref2_Compare.f k l0 l1) (hushref2_Compare.F l0 l1) := ⟨fun k => hushref2_Compare.mono l0 l1 k, rfl⟩
noncomputable def hushref2_Same.F (l0 : List (S64)) (l1 : List (S64)) : Option (Bool) := lim (fun k => hushref2_Same.f k l0 l1)
theorem hushref2_Same.F_is (l0 : List (S64)) (l1 : List (S64)) : LimIs (fun k => hushref2_Same.f k l0 l1) (hushref2_Same.F l0 l1) := ⟨fun k => hushref2_Same.mono l0 l1 k, rfl⟩
theorem hushref2_Compare.L0_eq (x0 : List Int) (x1 : List Int) (x7 : Int) (x8 : Int) : hushref2_Compare.L0 x0 x1 x7 x8 = if x8 < x7 then (if x8 ≥ (x1.length : Int) then (some 1) else (if 0 ≤ x8 then (if x8 < (x0.length : Int) then (if x8 < (x1.length : Int) then (if (rd x0 x8) = (rd x1 x8) then (hushref2_Compare.L0 x0 x1 x7 (wrap64 (x8 + 1))) else (if (rd x0 x8) < (rd x1 x8) then (some (-1)) else (some 1))) else (none)) else (none)) else (none))) else (if (x0.length : Int) < (x1.length : Int) then (some (-1)) else (some 0)) := by
 refine LimIs.step' (hushref2_Compare.L0_is x0 x1 x7 x8).1 (b := fun k => if x8 < x7 then (if x8 ≥ (x1.length : Int) then (some 1) else (if 0 ≤ x8 then (if x8 < (x0.length : Int) then (if x8 < (x1.length : Int) then (if (rd x0 x8) = (rd x1 x8) then (hushref2_Compare.l0 k x0 x1 x7 (wrap64 (x8 + 1))) else (if (rd x0 x8) < (rd x1 x8) then (some (-1)) else (some 1))) else (none)) else (none)) else (none))) else (if (x0.length : Int) < (x1.length : Int) then (some (-1)) else (some 0))) (fun k => by rfl) ?_
 repeat' first
  | (with_reducible exact hushref2_Compare.L0_is _ _ _ _)
  | (with_reducible exact LimIs.const _)
  | (with_reducible refine LimIs.ite ?_ ?_)
theorem hushref2_Same.L0_eq (x0 : List (S64)) (x1 : List (S64)) (x12 : Int) (x13 : Int) : hushref2_Same.L0 x0 x1 x12 x13 = if x13 < x12 then (if 0 ≤ x13 then (if x13 < (x0.length : Int) then (if x13 < (x1.length : Int) then (if ((rd_T64 x0 x13).f1) = ((rd_T64 x1 x13).f1) then ((hushref2_Compare.F ((rd_T64 x0 x13).f0) ((rd_T64 x1 x13).f0)).bind fun t183 => (if t183 = 0 then (hushref2_Same.L0 x0 x1 x12 (wrap64 (x13 + 1))) else (some false))) else (some false)) else (none)) else (none)) else (none)) else (some true) := by
 refine LimIs.step' (hushref2_Same.L0_is x0 x1 x12 x13).1 (b := fun k => if x13 < x12 then (if 0 ≤ x13 then (if x13 < (x0.length : Int) then (if x13 < (x1.length : Int) then (if ((rd_T64 x0 x13).f1) = ((rd_T64 x1 x13).f1) then ((hushref2_Compare.f k ((rd_T64 x0 x13).f0) ((rd_T64 x1 x13).f0)).bind fun t183 => (if t183 = 0 then (hushref2_Same.l0 k x0 x1 x12 (wrap64 (x13 + 1))) else (some false))) else (some false)) else (none)) else (none)) else (none)) else (some true)) (fun k => by rfl) ?_
 repeat' first
  | (with_reducible exact hushref2_Compare.F_is _ _)
  | (with_reducible exact hushref2_Same.L0_is _ _ _ _)
  | (with_reducible exact LimIs.const _)
  | (with_reducible refine LimIs.ite ?_ ?_)
  | (with_reducible refine LimIs.bind ?_ (fun _ => ?_))
theorem hushref2_Compare.F_eq (l0 : List Int) (l1 : List Int) : hushref2_Compare.F l0 l1 = hushref2_Compare.L0 l0 l1 (l0.length : Int) 0 := by
 refine LimIs.out (?_ : LimIs (fun k => hushref2_Compare.l0 k l0 l1 (l0.length : Int) 0) _)
 repeat' (with_reducible exact hushref2_Compare.L0_is _ _ _ _)
theorem hushref2_Same.F_eq (l0 : List (S64)) (l1 : List (S64)) : hushref2_Same.F l0 l1 = if (l0.length : Int) = (l1.length : Int) then (hushref2_Same.L0 l0 l1 (l0.length : Int) 0) else (some false) := by
 refine LimIs.out (?_ : LimIs (fun k => if (l0.length : Int) = (l1.length : Int) then (hushref2_Same.l0 k l0 l1 (l0.length : Int) 0) else (some false)) _)
 repeat' first
  | (with_reducible exact hushref2_Same.L0_is _ _ _ _)
  | (with_reducible exact LimIs.const _)
  | (with_reducible refine LimIs.ite ?_ ?_)
end Go.Proofs.Ytjbgnlhgjgnclaa.PB
end
section
namespace Go.Proofs.Ytjbgnlhgjgnclaa.PB
set_option maxRecDepth 100000
open Go.RowKit Go.Proofs.YtjbgnlhgjgnclaaW.PrintWords Go.Proofs.YtjbgnlhgjgnclaaW.PrintLast Go.Proofs.YtjbgnlhgjgnclaaW.PrintMore
open Go.Proofs.YtjbgnlhgjgnclaaW.EvKit
set_option linter.unusedVariables false
noncomputable def hushref2_least.L0 (x1 : List Int) (x2 : Bool) (x8 : List Int) (x9 : Bool) (x12 : List (S64)) (x13 : Int) (x14 : Int) : Option (List Int × Bool) := lim (fun k => hushref2_least.l0 k x1 x2 x8 x9 x12 x13 x14)
theorem hushref2_least.L0_is (x1 : List Int) (x2 : Bool) (x8 : List Int) (x9 : Bool) (x12 : List (S64)) (x13 : Int) (x14 : Int) : LimIs (fun k => hushref2_least.l0 k x1 x2 x8 x9 x12 x13 x14) (hushref2_least.L0 x1 x2 x8 x9 x12 x13 x14) := ⟨fun k => (hushref2_least.mono_l k) x1 x2 x8 x9 x12 x13 x14, rfl⟩
noncomputable def hushref2_least.F (l0 : List (S64)) (l1 : List Int) (a2 : Bool) : Option (List Int × Bool) := lim (fun k => hushref2_least.f k l0 l1 a2)
theorem hushref2_least.F_is (l0 : List (S64)) (l1 : List Int) (a2 : Bool) : LimIs (fun k => hushref2_least.f k l0 l1 a2) (hushref2_least.F l0 l1 a2) := ⟨fun k => hushref2_least.mono l0 l1 a2 k, rfl⟩
theorem hushref2_least.L0_eq (x1 : List Int) (x2 : Bool) (x8 : List Int) (x9 : Bool) (x12 : List (S64)) (x13 : Int) (x14 : Int) : hushref2_least.L0 x1 x2 x8 x9 x12 x13 x14 = if x14 < x13 then (if 0 ≤ x14 then (if x14 < (x12.length : Int) then (if ((rd_T64 x12 x14).f1) > 0 then (if x2 = true then ((hushref2_Compare.F ((rd_T64 x12 x14).f0) x1).bind fun t191 => (if t191 > 0 then (if x9 = true then ((hushref2_Compare.F ((rd_T64 x12 x14).f0) x8).bind fun t192 => (if t192 < 0 then (hushref2_least.L0 x1 x2 ((rd_T64 x12 x14).f0) true x12 x13 (wrap64 (x14 + 1))) else (hushref2_least.L0 x1 x2 x8 x9 x12 x13 (wrap64 (x14 + 1))))) else (hushref2_least.L0 x1 x2 ((rd_T64 x12 x14).f0) true x12 x13 (wrap64 (x14 + 1)))) else (hushref2_least.L0 x1 x2 x8 x9 x12 x13 (wrap64 (x14 + 1))))) else (if x9 = true then ((hushref2_Compare.F ((rd_T64 x12 x14).f0) x8).bind fun t193 => (if t193 < 0 then (hushref2_least.L0 x1 x2 ((rd_T64 x12 x14).f0) true x12 x13 (wrap64 (x14 + 1))) else (hushref2_least.L0 x1 x2 x8 x9 x12 x13 (wrap64 (x14 + 1))))) else (hushref2_least.L0 x1 x2 ((rd_T64 x12 x14).f0) true x12 x13 (wrap64 (x14 + 1))))) else (hushref2_least.L0 x1 x2 x8 x9 x12 x13 (wrap64 (x14 + 1)))) else (none)) else (none)) else (some (x8, x9)) := by
 refine LimIs.step' (hushref2_least.L0_is x1 x2 x8 x9 x12 x13 x14).1 (b := fun k => if x14 < x13 then (if 0 ≤ x14 then (if x14 < (x12.length : Int) then (if ((rd_T64 x12 x14).f1) > 0 then (if x2 = true then ((hushref2_Compare.f k ((rd_T64 x12 x14).f0) x1).bind fun t191 => (if t191 > 0 then (if x9 = true then ((hushref2_Compare.f k ((rd_T64 x12 x14).f0) x8).bind fun t192 => (if t192 < 0 then (hushref2_least.l0 k x1 x2 ((rd_T64 x12 x14).f0) true x12 x13 (wrap64 (x14 + 1))) else (hushref2_least.l0 k x1 x2 x8 x9 x12 x13 (wrap64 (x14 + 1))))) else (hushref2_least.l0 k x1 x2 ((rd_T64 x12 x14).f0) true x12 x13 (wrap64 (x14 + 1)))) else (hushref2_least.l0 k x1 x2 x8 x9 x12 x13 (wrap64 (x14 + 1))))) else (if x9 = true then ((hushref2_Compare.f k ((rd_T64 x12 x14).f0) x8).bind fun t193 => (if t193 < 0 then (hushref2_least.l0 k x1 x2 ((rd_T64 x12 x14).f0) true x12 x13 (wrap64 (x14 + 1))) else (hushref2_least.l0 k x1 x2 x8 x9 x12 x13 (wrap64 (x14 + 1))))) else (hushref2_least.l0 k x1 x2 ((rd_T64 x12 x14).f0) true x12 x13 (wrap64 (x14 + 1))))) else (hushref2_least.l0 k x1 x2 x8 x9 x12 x13 (wrap64 (x14 + 1)))) else (none)) else (none)) else (some (x8, x9))) (fun k => by rfl) ?_
 repeat' first
  | (with_reducible exact hushref2_Compare.F_is _ _)
  | (with_reducible exact hushref2_least.L0_is _ _ _ _ _ _ _)
  | (with_reducible exact LimIs.const _)
  | (with_reducible refine LimIs.ite ?_ ?_)
  | (with_reducible refine LimIs.bind ?_ (fun _ => ?_))
theorem hushref2_least.F_eq (l0 : List (S64)) (l1 : List Int) (a2 : Bool) : hushref2_least.F l0 l1 a2 = hushref2_least.L0 l1 a2 ([] : List Int) false l0 (l0.length : Int) 0 := by
 refine LimIs.out (?_ : LimIs (fun k => hushref2_least.l0 k l1 a2 ([] : List Int) false l0 (l0.length : Int) 0) _)
 repeat' (with_reducible exact hushref2_least.L0_is _ _ _ _ _ _ _)
end Go.Proofs.Ytjbgnlhgjgnclaa.PB
end
section
namespace Go.Proofs.Ytjbgnlhgjgnclaa.PB
set_option maxRecDepth 100000
open Go.RowKit Go.Proofs.YtjbgnlhgjgnclaaW.PrintWords Go.Proofs.YtjbgnlhgjgnclaaW.PrintLast Go.Proofs.YtjbgnlhgjgnclaaW.PrintMore
open Go.Proofs.YtjbgnlhgjgnclaaW.EvKit
set_option linter.unusedVariables false
noncomputable def hushref2_Weight.L0 (x1 : List Int) (x5 : Int) (x8 : List (S64)) (x9 : Int) (x10 : Int) : Option (Int) := lim (fun k => hushref2_Weight.l0 k x1 x5 x8 x9 x10)
theorem hushref2_Weight.L0_is (x1 : List Int) (x5 : Int) (x8 : List (S64)) (x9 : Int) (x10 : Int) : LimIs (fun k => hushref2_Weight.l0 k x1 x5 x8 x9 x10) (hushref2_Weight.L0 x1 x5 x8 x9 x10) := ⟨fun k => (hushref2_Weight.mono_l k) x1 x5 x8 x9 x10, rfl⟩
noncomputable def hushref2_Total.L0 (x3 : Int) (x6 : List (S64)) (x7 : Int) (x8 : Int) : Option (Int) := lim (fun k => hushref2_Total.l0 k x3 x6 x7 x8)
theorem hushref2_Total.L0_is (x3 : Int) (x6 : List (S64)) (x7 : Int) (x8 : Int) : LimIs (fun k => hushref2_Total.l0 k x3 x6 x7 x8) (hushref2_Total.L0 x3 x6 x7 x8) := ⟨fun k => (hushref2_Total.mono_l k) x3 x6 x7 x8, rfl⟩
noncomputable def hushref2_Weight.F (l0 : List (S64)) (l1 : List Int) : Option (Int) := lim (fun k => hushref2_Weight.f k l0 l1)
theorem hushref2_Weight.F_is (l0 : List (S64)) (l1 : List Int) : LimIs (fun k => hushref2_Weight.f k l0 l1) (hushref2_Weight.F l0 l1) := ⟨fun k => hushref2_Weight.mono l0 l1 k, rfl⟩
noncomputable def hushref2_Total.F (l0 : List (S64)) : Option (Int) := lim (fun k => hushref2_Total.f k l0)
theorem hushref2_Total.F_is (l0 : List (S64)) : LimIs (fun k => hushref2_Total.f k l0) (hushref2_Total.F l0) := ⟨fun k => hushref2_Total.mono l0 k, rfl⟩
theorem hushref2_Weight.L0_eq (x1 : List Int) (x5 : Int) (x8 : List (S64)) (x9 : Int) (x10 : Int) : hushref2_Weight.L0 x1 x5 x8 x9 x10 = if x10 < x9 then (if 0 ≤ x10 then (if x10 < (x8.length : Int) then ((hushref2_Compare.F ((rd_T64 x8 x10).f0) x1).bind fun t196 => (if t196 = 0 then (hushref2_Weight.L0 x1 (wrap64 (x5 + ((rd_T64 x8 x10).f1))) x8 x9 (wrap64 (x10 + 1))) else (hushref2_Weight.L0 x1 x5 x8 x9 (wrap64 (x10 + 1))))) else (none)) else (none)) else (some x5) := by
 refine LimIs.step' (hushref2_Weight.L0_is x1 x5 x8 x9 x10).1 (b := fun k => if x10 < x9 then (if 0 ≤ x10 then (if x10 < (x8.length : Int) then ((hushref2_Compare.f k ((rd_T64 x8 x10).f0) x1).bind fun t196 => (if t196 = 0 then (hushref2_Weight.l0 k x1 (wrap64 (x5 + ((rd_T64 x8 x10).f1))) x8 x9 (wrap64 (x10 + 1))) else (hushref2_Weight.l0 k x1 x5 x8 x9 (wrap64 (x10 + 1))))) else (none)) else (none)) else (some x5)) (fun k => by rfl) ?_
 repeat' first
  | (with_reducible exact hushref2_Compare.F_is _ _)
  | (with_reducible exact hushref2_Weight.L0_is _ _ _ _ _)
  | (with_reducible exact LimIs.const _)
  | (with_reducible refine LimIs.ite ?_ ?_)
  | (with_reducible refine LimIs.bind ?_ (fun _ => ?_))
theorem hushref2_Total.L0_eq (x3 : Int) (x6 : List (S64)) (x7 : Int) (x8 : Int) : hushref2_Total.L0 x3 x6 x7 x8 = if x8 < x7 then (if 0 ≤ x8 then (if x8 < (x6.length : Int) then (hushref2_Total.L0 (wrap64 (x3 + ((rd_T64 x6 x8).f1))) x6 x7 (wrap64 (x8 + 1))) else (none)) else (none)) else (some x3) := by
 refine LimIs.step' (hushref2_Total.L0_is x3 x6 x7 x8).1 (b := fun k => if x8 < x7 then (if 0 ≤ x8 then (if x8 < (x6.length : Int) then (hushref2_Total.l0 k (wrap64 (x3 + ((rd_T64 x6 x8).f1))) x6 x7 (wrap64 (x8 + 1))) else (none)) else (none)) else (some x3)) (fun k => by rfl) ?_
 repeat' first
  | (with_reducible exact hushref2_Total.L0_is _ _ _ _)
  | (with_reducible exact LimIs.const _)
  | (with_reducible refine LimIs.ite ?_ ?_)
theorem hushref2_Weight.F_eq (l0 : List (S64)) (l1 : List Int) : hushref2_Weight.F l0 l1 = hushref2_Weight.L0 l1 0 l0 (l0.length : Int) 0 := by
 refine LimIs.out (?_ : LimIs (fun k => hushref2_Weight.l0 k l1 0 l0 (l0.length : Int) 0) _)
 repeat' (with_reducible exact hushref2_Weight.L0_is _ _ _ _ _)
theorem hushref2_Total.F_eq (l0 : List (S64)) : hushref2_Total.F l0 = hushref2_Total.L0 0 l0 (l0.length : Int) 0 := by
 refine LimIs.out (?_ : LimIs (fun k => hushref2_Total.l0 k 0 l0 (l0.length : Int) 0) _)
 repeat' (with_reducible exact hushref2_Total.L0_is _ _ _ _)
end Go.Proofs.Ytjbgnlhgjgnclaa.PB
end
section
namespace Go.Proofs.Ytjbgnlhgjgnclaa.PB
set_option maxRecDepth 100000
open Go.RowKit Go.Proofs.YtjbgnlhgjgnclaaW.PrintWords Go.Proofs.YtjbgnlhgjgnclaaW.PrintLast Go.Proofs.YtjbgnlhgjgnclaaW.PrintMore
open Go.Proofs.YtjbgnlhgjgnclaaW.EvKit
set_option linter.unusedVariables false
noncomputable def hushref2_Tidy.L0 (x0 : List (S64)) (x4 : List (S64)) (x5 : List Int) (x6 : Bool) : Option ((List (S64)) × Int) := lim (fun k => hushref2_Tidy.l0 k x0 x4 x5 x6)
theorem hushref2_Tidy.L0_is (x0 : List (S64)) (x4 : List (S64)) (x5 : List Int) (x6 : Bool) : LimIs (fun k => hushref2_Tidy.l0 k x0 x4 x5 x6) (hushref2_Tidy.L0 x0 x4 x5 x6) := ⟨fun k => (hushref2_Tidy.mono_l k).1 x0 x4 x5 x6, rfl⟩
noncomputable def hushref2_Tidy.L1 (x4 : List (S64)) (x7 : Int) (x38 : List (S64)) (x39 : Int) (x40 : Int) : Option ((List (S64)) × Int) := lim (fun k => hushref2_Tidy.l1 k x4 x7 x38 x39 x40)
theorem hushref2_Tidy.L1_is (x4 : List (S64)) (x7 : Int) (x38 : List (S64)) (x39 : Int) (x40 : Int) : LimIs (fun k => hushref2_Tidy.l1 k x4 x7 x38 x39 x40) (hushref2_Tidy.L1 x4 x7 x38 x39 x40) := ⟨fun k => (hushref2_Tidy.mono_l k).2.1 x4 x7 x38 x39 x40, rfl⟩
noncomputable def hushref2_Tidy.J2 (x4 : List (S64)) (x7 : Int) (x58 : Bool) : Option ((List (S64)) × Int) := lim (fun k => hushref2_Tidy.j2 k x4 x7 x58)
theorem hushref2_Tidy.J2_is (x4 : List (S64)) (x7 : Int) (x58 : Bool) : LimIs (fun k => hushref2_Tidy.j2 k x4 x7 x58) (hushref2_Tidy.J2 x4 x7 x58) := ⟨fun k => (hushref2_Tidy.mono_l k).2.2.1 x4 x7 x58, rfl⟩
noncomputable def hushref2_Tidy.L2 (x4 : List (S64)) (x7 : Int) (x60 : Int) (x61 : Int) : Option ((List (S64)) × Int) := lim (fun k => hushref2_Tidy.l2 k x4 x7 x60 x61)
theorem hushref2_Tidy.L2_is (x4 : List (S64)) (x7 : Int) (x60 : Int) (x61 : Int) : LimIs (fun k => hushref2_Tidy.l2 k x4 x7 x60 x61) (hushref2_Tidy.L2 x4 x7 x60 x61) := ⟨fun k => (hushref2_Tidy.mono_l k).2.2.2 x4 x7 x60 x61, rfl⟩
noncomputable def hushref2_Tidy.F (l0 : List (S64)) : Option ((List (S64)) × Int) := lim (fun k => hushref2_Tidy.f k l0)
theorem hushref2_Tidy.F_is (l0 : List (S64)) : LimIs (fun k => hushref2_Tidy.f k l0) (hushref2_Tidy.F l0) := ⟨fun k => hushref2_Tidy.mono l0 k, rfl⟩
theorem hushref2_Tidy.L0_eq (x0 : List (S64)) (x4 : List (S64)) (x5 : List Int) (x6 : Bool) : hushref2_Tidy.L0 x0 x4 x5 x6 = if x6 = true then ((hushref2_Weight.F x0 x5).bind fun t203 => (if x4.length < 4398046511104 then ((hushref2_least.F x0 x5 true).bind fun bt207 => (hushref2_Tidy.L0 x0 (x4 ++ [(⟨x5, t203⟩ : S64)]) bt207.1 bt207.2)) else (none))) else (if (x4.length : Int) = 0 then (some (([] : List (S64)), 6)) else (if 0 < (x4.length : Int) then (hushref2_Tidy.L1 x4 ((rd_T64 x4 0).f1) x4 (x4.length : Int) 0) else (none))) := by
 refine LimIs.step' (hushref2_Tidy.L0_is x0 x4 x5 x6).1 (b := fun k => if x6 = true then ((hushref2_Weight.f k x0 x5).bind fun t203 => (if x4.length < 4398046511104 then ((hushref2_least.f k x0 x5 true).bind fun bt207 => (hushref2_Tidy.l0 k x0 (x4 ++ [(⟨x5, t203⟩ : S64)]) bt207.1 bt207.2)) else (none))) else (if (x4.length : Int) = 0 then (some (([] : List (S64)), 6)) else (if 0 < (x4.length : Int) then (hushref2_Tidy.l1 k x4 ((rd_T64 x4 0).f1) x4 (x4.length : Int) 0) else (none)))) (fun k => by rfl) ?_
 repeat' first
  | (with_reducible exact hushref2_Weight.F_is _ _)
  | (with_reducible exact hushref2_least.F_is _ _ _)
  | (with_reducible exact hushref2_Tidy.L0_is _ _ _ _)
  | (with_reducible exact hushref2_Tidy.L1_is _ _ _ _ _)
  | (with_reducible exact LimIs.const _)
  | (with_reducible refine LimIs.ite ?_ ?_)
  | (with_reducible refine LimIs.bind ?_ (fun _ => ?_))
theorem hushref2_Tidy.L1_eq (x4 : List (S64)) (x7 : Int) (x38 : List (S64)) (x39 : Int) (x40 : Int) : hushref2_Tidy.L1 x4 x7 x38 x39 x40 = if x40 < x39 then (if 0 ≤ x40 then (if x40 < (x38.length : Int) then ((hushref1_Divisor.F ((rd_T64 x38 x40).f1) x7).bind fun t214 => (hushref2_Tidy.L1 x4 t214 x38 x39 (wrap64 (x40 + 1)))) else (none)) else (none)) else ((hushref2_Total.F x4).bind fun t215 => (if x7 = 0 then (none) else (if (wrap64 (Int.tdiv t215 x7)) > 1073741824 then (hushref2_Tidy.J2 x4 x7 true) else (hushref2_Tidy.J2 x4 x7 (decide ((x4.length : Int) > 4096)))))) := by
 refine LimIs.step' (hushref2_Tidy.L1_is x4 x7 x38 x39 x40).1 (b := fun k => if x40 < x39 then (if 0 ≤ x40 then (if x40 < (x38.length : Int) then ((hushref1_Divisor.f k ((rd_T64 x38 x40).f1) x7).bind fun t214 => (hushref2_Tidy.l1 k x4 t214 x38 x39 (wrap64 (x40 + 1)))) else (none)) else (none)) else ((hushref2_Total.f k x4).bind fun t215 => (if x7 = 0 then (none) else (if (wrap64 (Int.tdiv t215 x7)) > 1073741824 then (hushref2_Tidy.j2 k x4 x7 true) else (hushref2_Tidy.j2 k x4 x7 (decide ((x4.length : Int) > 4096))))))) (fun k => by rfl) ?_
 repeat' first
  | (with_reducible exact hushref1_Divisor.F_is _ _)
  | (with_reducible exact hushref2_Tidy.L1_is _ _ _ _ _)
  | (with_reducible exact hushref2_Total.F_is _)
  | (with_reducible exact hushref2_Tidy.J2_is _ _ _)
  | (with_reducible exact LimIs.const _)
  | (with_reducible refine LimIs.ite ?_ ?_)
  | (with_reducible refine LimIs.bind ?_ (fun _ => ?_))
theorem hushref2_Tidy.J2_eq (x4 : List (S64)) (x7 : Int) (x58 : Bool) : hushref2_Tidy.J2 x4 x7 x58 = if x58 = true then (some (([] : List (S64)), 4)) else (hushref2_Tidy.L2 x4 x7 (x4.length : Int) 0) := by
 refine LimIs.step' (hushref2_Tidy.J2_is x4 x7 x58).1 (b := fun k => if x58 = true then (some (([] : List (S64)), 4)) else (hushref2_Tidy.l2 k x4 x7 (x4.length : Int) 0)) (fun k => by rfl) ?_
 repeat' first
  | (with_reducible exact hushref2_Tidy.L2_is _ _ _ _)
  | (with_reducible exact LimIs.const _)
  | (with_reducible refine LimIs.ite ?_ ?_)
theorem hushref2_Tidy.L2_eq (x4 : List (S64)) (x7 : Int) (x60 : Int) (x61 : Int) : hushref2_Tidy.L2 x4 x7 x60 x61 = if x61 < x60 then (if 0 ≤ x61 then (if x61 < (x4.length : Int) then (if x7 = 0 then (none) else (hushref2_Tidy.L2 (x4.set (x61 : Int).toNat (⟨(rd_T64 x4 x61).f0, wrap64 (Int.tdiv ((rd_T64 x4 x61).f1) x7)⟩ : S64)) x7 x60 (wrap64 (x61 + 1)))) else (none)) else (none)) else (some (x4, 0)) := by
 refine LimIs.step' (hushref2_Tidy.L2_is x4 x7 x60 x61).1 (b := fun k => if x61 < x60 then (if 0 ≤ x61 then (if x61 < (x4.length : Int) then (if x7 = 0 then (none) else (hushref2_Tidy.l2 k (x4.set (x61 : Int).toNat (⟨(rd_T64 x4 x61).f0, wrap64 (Int.tdiv ((rd_T64 x4 x61).f1) x7)⟩ : S64)) x7 x60 (wrap64 (x61 + 1)))) else (none)) else (none)) else (some (x4, 0))) (fun k => by rfl) ?_
 repeat' first
  | (with_reducible exact hushref2_Tidy.L2_is _ _ _ _)
  | (with_reducible exact LimIs.const _)
  | (with_reducible refine LimIs.ite ?_ ?_)
theorem hushref2_Tidy.F_eq (l0 : List (S64)) : hushref2_Tidy.F l0 = (hushref2_least.F l0 ([] : List Int) false).bind fun bt199 => (hushref2_Tidy.L0 l0 ([] : List (S64)) bt199.1 bt199.2) := by
 refine LimIs.out (?_ : LimIs (fun k => (hushref2_least.f k l0 ([] : List Int) false).bind fun bt199 => (hushref2_Tidy.l0 k l0 ([] : List (S64)) bt199.1 bt199.2)) _)
 repeat' first
  | (with_reducible exact hushref2_least.F_is _ _ _)
  | (with_reducible exact hushref2_Tidy.L0_is _ _ _ _)
  | (with_reducible refine LimIs.bind ?_ (fun _ => ?_))
end Go.Proofs.Ytjbgnlhgjgnclaa.PB
end
section
namespace Go.Proofs.Ytjbgnlhgjgnclaa.PB
set_option maxRecDepth 100000
open Go.RowKit Go.Proofs.YtjbgnlhgjgnclaaW.PrintWords Go.Proofs.YtjbgnlhgjgnclaaW.PrintLast Go.Proofs.YtjbgnlhgjgnclaaW.PrintMore
open Go.Proofs.YtjbgnlhgjgnclaaW.EvKit
set_option linter.unusedVariables false
noncomputable def hushref2_Make.L0 (x0 : List (S64)) (x6 : List (S64)) (x7 : Int) (x8 : Int) : Option ((List (S64)) × Int) := lim (fun k => hushref2_Make.l0 k x0 x6 x7 x8)
theorem hushref2_Make.L0_is (x0 : List (S64)) (x6 : List (S64)) (x7 : Int) (x8 : Int) : LimIs (fun k => hushref2_Make.l0 k x0 x6 x7 x8) (hushref2_Make.L0 x0 x6 x7 x8) := ⟨fun k => (hushref2_Make.mono_l k) x0 x6 x7 x8, rfl⟩
noncomputable def hushref6_Power.L0 (x0 : Int) (x1 : Int) (x5 : Int) (x6 : Int) : Option (Int) := lim (fun k => hushref6_Power.l0 k x0 x1 x5 x6)
theorem hushref6_Power.L0_is (x0 : Int) (x1 : Int) (x5 : Int) (x6 : Int) : LimIs (fun k => hushref6_Power.l0 k x0 x1 x5 x6) (hushref6_Power.L0 x0 x1 x5 x6) := ⟨fun k => (hushref6_Power.mono_l k) x0 x1 x5 x6, rfl⟩
noncomputable def hushref2_Make.F (l0 : List (S64)) : Option ((List (S64)) × Int) := lim (fun k => hushref2_Make.f k l0)
theorem hushref2_Make.F_is (l0 : List (S64)) : LimIs (fun k => hushref2_Make.f k l0) (hushref2_Make.F l0) := ⟨fun k => hushref2_Make.mono l0 k, rfl⟩
noncomputable def hushref6_Power.F (a0 : Int) (a1 : Int) : Option (Int) := lim (fun k => hushref6_Power.f k a0 a1)
theorem hushref6_Power.F_is (a0 : Int) (a1 : Int) : LimIs (fun k => hushref6_Power.f k a0 a1) (hushref6_Power.F a0 a1) := ⟨fun k => hushref6_Power.mono a0 a1 k, rfl⟩
theorem hushref2_Make.L0_eq (x0 : List (S64)) (x6 : List (S64)) (x7 : Int) (x8 : Int) : hushref2_Make.L0 x0 x6 x7 x8 = if x8 < x7 then (if 0 ≤ x8 then (if x8 < (x6.length : Int) then ((hushref2_Small.F ((rd_T64 x6 x8).f0)).bind fun t220 => (if t220 = true then (if ((rd_T64 x6 x8).f1) < 0 then (some (([] : List (S64)), 3)) else (if ((rd_T64 x6 x8).f1) > 1073741824 then (some (([] : List (S64)), 3)) else (hushref2_Make.L0 x0 x6 x7 (wrap64 (x8 + 1))))) else (some (([] : List (S64)), 3)))) else (none)) else (none)) else ((hushref2_Tidy.F x0).bind fun bt221 => (some (bt221.1, bt221.2))) := by
 refine LimIs.step' (hushref2_Make.L0_is x0 x6 x7 x8).1 (b := fun k => if x8 < x7 then (if 0 ≤ x8 then (if x8 < (x6.length : Int) then ((hushref2_Small.f k ((rd_T64 x6 x8).f0)).bind fun t220 => (if t220 = true then (if ((rd_T64 x6 x8).f1) < 0 then (some (([] : List (S64)), 3)) else (if ((rd_T64 x6 x8).f1) > 1073741824 then (some (([] : List (S64)), 3)) else (hushref2_Make.l0 k x0 x6 x7 (wrap64 (x8 + 1))))) else (some (([] : List (S64)), 3)))) else (none)) else (none)) else ((hushref2_Tidy.f k x0).bind fun bt221 => (some (bt221.1, bt221.2)))) (fun k => by rfl) ?_
 repeat' first
  | (with_reducible exact hushref2_Small.F_is _)
  | (with_reducible exact hushref2_Make.L0_is _ _ _ _)
  | (with_reducible exact hushref2_Tidy.F_is _)
  | (with_reducible exact LimIs.const _)
  | (with_reducible refine LimIs.ite ?_ ?_)
  | (with_reducible refine LimIs.bind ?_ (fun _ => ?_))
theorem hushref6_Power.L0_eq (x0 : Int) (x1 : Int) (x5 : Int) (x6 : Int) : hushref6_Power.L0 x0 x1 x5 x6 = if x6 < x1 then (if x5 ≤ 1073741824 then (hushref6_Power.L0 x0 x1 (wrap64 (x5 * x0)) (wrap64 (x6 + 1))) else (if x5 > 1073741824 then (some 1073741825) else (some x5))) else (if x5 > 1073741824 then (some 1073741825) else (some x5)) := by
 refine LimIs.step' (hushref6_Power.L0_is x0 x1 x5 x6).1 (b := fun k => if x6 < x1 then (if x5 ≤ 1073741824 then (hushref6_Power.l0 k x0 x1 (wrap64 (x5 * x0)) (wrap64 (x6 + 1))) else (if x5 > 1073741824 then (some 1073741825) else (some x5))) else (if x5 > 1073741824 then (some 1073741825) else (some x5))) (fun k => by rfl) ?_
 repeat' first
  | (with_reducible exact hushref6_Power.L0_is _ _ _ _)
  | (with_reducible exact LimIs.const _)
  | (with_reducible refine LimIs.ite ?_ ?_)
theorem hushref2_Make.F_eq (l0 : List (S64)) : hushref2_Make.F l0 = hushref2_Make.L0 l0 l0 (l0.length : Int) 0 := by
 refine LimIs.out (?_ : LimIs (fun k => hushref2_Make.l0 k l0 l0 (l0.length : Int) 0) _)
 repeat' (with_reducible exact hushref2_Make.L0_is _ _ _ _)
theorem hushref6_Power.F_eq (a0 : Int) (a1 : Int) : hushref6_Power.F a0 a1 = hushref6_Power.L0 a0 a1 1 0 := by
 refine LimIs.out (?_ : LimIs (fun k => hushref6_Power.l0 k a0 a1 1 0) _)
 repeat' (with_reducible exact hushref6_Power.L0_is _ _ _ _)
end Go.Proofs.Ytjbgnlhgjgnclaa.PB
end
section
namespace Go.Proofs.Ytjbgnlhgjgnclaa.PB
set_option maxRecDepth 100000
open Go.RowKit Go.Proofs.YtjbgnlhgjgnclaaW.PrintWords Go.Proofs.YtjbgnlhgjgnclaaW.PrintLast Go.Proofs.YtjbgnlhgjgnclaaW.PrintMore
open Go.Proofs.YtjbgnlhgjgnclaaW.EvKit
set_option linter.unusedVariables false
noncomputable def hushref6_Hide.J0 (x1 : Int) (x2 : Int) (x3 : Int) (x36 : Bool) (x226000 : Int) (x226001 : Int) : Option ((List (S64)) × Int) := lim (fun k => hushref6_Hide.j0 k x1 x2 x3 x36 x226000 x226001)
theorem hushref6_Hide.J0_is (x1 : Int) (x2 : Int) (x3 : Int) (x36 : Bool) (x226000 : Int) (x226001 : Int) : LimIs (fun k => hushref6_Hide.j0 k x1 x2 x3 x36 x226000 x226001) (hushref6_Hide.J0 x1 x2 x3 x36 x226000 x226001) := ⟨fun k => (hushref6_Hide.mono_l k).1 x1 x2 x3 x36 x226000 x226001, rfl⟩
noncomputable def hushref6_Hide.J1 (x1 : Int) (x2 : Int) (x3 : Int) (x68 : Bool) (x226000 : Int) (x226001 : Int) : Option ((List (S64)) × Int) := lim (fun k => hushref6_Hide.j1 k x1 x2 x3 x68 x226000 x226001)
theorem hushref6_Hide.J1_is (x1 : Int) (x2 : Int) (x3 : Int) (x68 : Bool) (x226000 : Int) (x226001 : Int) : LimIs (fun k => hushref6_Hide.j1 k x1 x2 x3 x68 x226000 x226001) (hushref6_Hide.J1 x1 x2 x3 x68 x226000 x226001) := ⟨fun k => (hushref6_Hide.mono_l k).2.1 x1 x2 x3 x68 x226000 x226001, rfl⟩
noncomputable def hushref6_Hide.J2 (x1 : Int) (x2 : Int) (x3 : Int) (x226000 : Int) (x226001 : Int) : Option ((List (S64)) × Int) := lim (fun k => hushref6_Hide.j2 k x1 x2 x3 x226000 x226001)
theorem hushref6_Hide.J2_is (x1 : Int) (x2 : Int) (x3 : Int) (x226000 : Int) (x226001 : Int) : LimIs (fun k => hushref6_Hide.j2 k x1 x2 x3 x226000 x226001) (hushref6_Hide.J2 x1 x2 x3 x226000 x226001) := ⟨fun k => (hushref6_Hide.mono_l k).2.2.1 x1 x2 x3 x226000 x226001, rfl⟩
noncomputable def hushref6_Hide.J3 (x1 : Int) (x2 : Int) (x3 : Int) (x226000 : Int) (x226001 : Int) : Option ((List (S64)) × Int) := lim (fun k => hushref6_Hide.j3 k x1 x2 x3 x226000 x226001)
theorem hushref6_Hide.J3_is (x1 : Int) (x2 : Int) (x3 : Int) (x226000 : Int) (x226001 : Int) : LimIs (fun k => hushref6_Hide.j3 k x1 x2 x3 x226000 x226001) (hushref6_Hide.J3 x1 x2 x3 x226000 x226001) := ⟨fun k => (hushref6_Hide.mono_l k).2.2.2.1 x1 x2 x3 x226000 x226001, rfl⟩
noncomputable def hushref6_Hide.L0 (x1 : Int) (x2 : Int) (x3 : Int) (x11 : List (S64)) (x12 : Int) (x226000 : Int) (x226001 : Int) : Option ((List (S64)) × Int) := lim (fun k => hushref6_Hide.l0 k x1 x2 x3 x11 x12 x226000 x226001)
theorem hushref6_Hide.L0_is (x1 : Int) (x2 : Int) (x3 : Int) (x11 : List (S64)) (x12 : Int) (x226000 : Int) (x226001 : Int) : LimIs (fun k => hushref6_Hide.l0 k x1 x2 x3 x11 x12 x226000 x226001) (hushref6_Hide.L0 x1 x2 x3 x11 x12 x226000 x226001) := ⟨fun k => (hushref6_Hide.mono_l k).2.2.2.2.1 x1 x2 x3 x11 x12 x226000 x226001, rfl⟩
noncomputable def hushref6_Hide.J5 (x1 : Int) (x2 : Int) (x3 : Int) (x11 : List (S64)) (x12 : Int) (x13 : Int) (x226000 : Int) (x226001 : Int) : Option ((List (S64)) × Int) := lim (fun k => hushref6_Hide.j5 k x1 x2 x3 x11 x12 x13 x226000 x226001)
theorem hushref6_Hide.J5_is (x1 : Int) (x2 : Int) (x3 : Int) (x11 : List (S64)) (x12 : Int) (x13 : Int) (x226000 : Int) (x226001 : Int) : LimIs (fun k => hushref6_Hide.j5 k x1 x2 x3 x11 x12 x13 x226000 x226001) (hushref6_Hide.J5 x1 x2 x3 x11 x12 x13 x226000 x226001) := ⟨fun k => (hushref6_Hide.mono_l k).2.2.2.2.2.1 x1 x2 x3 x11 x12 x13 x226000 x226001, rfl⟩
noncomputable def hushref6_Hide.J6 (x1 : Int) (x2 : Int) (x3 : Int) (x11 : List (S64)) (x12 : Int) (x13 : Int) (x14 : Int) (x102 : Bool) (x226000 : Int) (x226001 : Int) : Option ((List (S64)) × Int) := lim (fun k => hushref6_Hide.j6 k x1 x2 x3 x11 x12 x13 x14 x102 x226000 x226001)
theorem hushref6_Hide.J6_is (x1 : Int) (x2 : Int) (x3 : Int) (x11 : List (S64)) (x12 : Int) (x13 : Int) (x14 : Int) (x102 : Bool) (x226000 : Int) (x226001 : Int) : LimIs (fun k => hushref6_Hide.j6 k x1 x2 x3 x11 x12 x13 x14 x102 x226000 x226001) (hushref6_Hide.J6 x1 x2 x3 x11 x12 x13 x14 x102 x226000 x226001) := ⟨fun k => (hushref6_Hide.mono_l k).2.2.2.2.2.2 x1 x2 x3 x11 x12 x13 x14 x102 x226000 x226001, rfl⟩
noncomputable def hushref6_Hide.F (a0_0 : Int) (a0_1 : Int) (a1 : Int) (a2 : Int) (a3 : Int) : Option ((List (S64)) × Int) := lim (fun k => hushref6_Hide.f k a0_0 a0_1 a1 a2 a3)
theorem hushref6_Hide.F_is (a0_0 : Int) (a0_1 : Int) (a1 : Int) (a2 : Int) (a3 : Int) : LimIs (fun k => hushref6_Hide.f k a0_0 a0_1 a1 a2 a3) (hushref6_Hide.F a0_0 a0_1 a1 a2 a3) := ⟨fun k => hushref6_Hide.mono a0_0 a0_1 a1 a2 a3 k, rfl⟩
theorem hushref6_Hide.J0_eq (x1 : Int) (x2 : Int) (x3 : Int) (x36 : Bool) (x226000 : Int) (x226001 : Int) : hushref6_Hide.J0 x1 x2 x3 x36 x226000 x226001 = if x36 = true then (some (([] : List (S64)), 3)) else (if x1 = x2 then ((hushref2_Make.F (([(⟨(([x1] : List Int)), 1⟩ : S64)] : List (S64)))).bind fun bt233 => (some (bt233.1, bt233.2))) else ((hushref6_Power.F x226000 (wrap64 (x2 - x1))).bind fun t237 => (if t237 > 1073741824 then (hushref6_Hide.J1 x1 x2 x3 true x226000 x226001) else ((hushref6_Power.F x226000 (wrap64 (x2 - x1))).bind fun t238 => (hushref6_Hide.J1 x1 x2 x3 (decide ((wrap64 (t238 * (wrap64 (x226000 + x226001)))) > 1073741824)) x226000 x226001))))) := by
 refine LimIs.step' (hushref6_Hide.J0_is x1 x2 x3 x36 x226000 x226001).1 (b := fun k => if x36 = true then (some (([] : List (S64)), 3)) else (if x1 = x2 then ((hushref2_Make.f k (([(⟨(([x1] : List Int)), 1⟩ : S64)] : List (S64)))).bind fun bt233 => (some (bt233.1, bt233.2))) else ((hushref6_Power.f k x226000 (wrap64 (x2 - x1))).bind fun t237 => (if t237 > 1073741824 then (hushref6_Hide.j1 k x1 x2 x3 true x226000 x226001) else ((hushref6_Power.f k x226000 (wrap64 (x2 - x1))).bind fun t238 => (hushref6_Hide.j1 k x1 x2 x3 (decide ((wrap64 (t238 * (wrap64 (x226000 + x226001)))) > 1073741824)) x226000 x226001)))))) (fun k => by rfl) ?_
 repeat' first
  | (with_reducible exact hushref2_Make.F_is _)
  | (with_reducible exact hushref6_Power.F_is _ _)
  | (with_reducible exact hushref6_Hide.J1_is _ _ _ _ _ _)
  | (with_reducible exact LimIs.const _)
  | (with_reducible refine LimIs.ite ?_ ?_)
  | (with_reducible refine LimIs.bind ?_ (fun _ => ?_))
theorem hushref6_Hide.J1_eq (x1 : Int) (x2 : Int) (x3 : Int) (x68 : Bool) (x226000 : Int) (x226001 : Int) : hushref6_Hide.J1 x1 x2 x3 x68 x226000 x226001 = if x68 = true then (some (([] : List (S64)), 4)) else (if x3 < x1 then (hushref6_Hide.J2 x1 x2 x1 x226000 x226001) else (hushref6_Hide.J2 x1 x2 x3 x226000 x226001)) := by
 refine LimIs.step' (hushref6_Hide.J1_is x1 x2 x3 x68 x226000 x226001).1 (b := fun k => if x68 = true then (some (([] : List (S64)), 4)) else (if x3 < x1 then (hushref6_Hide.j2 k x1 x2 x1 x226000 x226001) else (hushref6_Hide.j2 k x1 x2 x3 x226000 x226001))) (fun k => by rfl) ?_
 repeat' first
  | (with_reducible exact hushref6_Hide.J2_is _ _ _ _ _)
  | (with_reducible exact LimIs.const _)
  | (with_reducible refine LimIs.ite ?_ ?_)
theorem hushref6_Hide.J2_eq (x1 : Int) (x2 : Int) (x3 : Int) (x226000 : Int) (x226001 : Int) : hushref6_Hide.J2 x1 x2 x3 x226000 x226001 = if x3 > x2 then (hushref6_Hide.J3 x1 x2 x2 x226000 x226001) else (hushref6_Hide.J3 x1 x2 x3 x226000 x226001) := by
 refine LimIs.step' (hushref6_Hide.J2_is x1 x2 x3 x226000 x226001).1 (b := fun k => if x3 > x2 then (hushref6_Hide.j3 k x1 x2 x2 x226000 x226001) else (hushref6_Hide.j3 k x1 x2 x3 x226000 x226001)) (fun k => by rfl) ?_
 repeat' first
  | (with_reducible exact hushref6_Hide.J3_is _ _ _ _ _)
  | (with_reducible refine LimIs.ite ?_ ?_)
theorem hushref6_Hide.J3_eq (x1 : Int) (x2 : Int) (x3 : Int) (x226000 : Int) (x226001 : Int) : hushref6_Hide.J3 x1 x2 x3 x226000 x226001 = hushref6_Hide.L0 x1 x2 x3 ([] : List (S64)) x1 x226000 x226001 := by
 refine LimIs.step' (hushref6_Hide.J3_is x1 x2 x3 x226000 x226001).1 (b := fun k => hushref6_Hide.l0 k x1 x2 x3 ([] : List (S64)) x1 x226000 x226001) (fun k => by rfl) ?_
 repeat' (with_reducible exact hushref6_Hide.L0_is _ _ _ _ _ _ _)
theorem hushref6_Hide.L0_eq (x1 : Int) (x2 : Int) (x3 : Int) (x11 : List (S64)) (x12 : Int) (x226000 : Int) (x226001 : Int) : hushref6_Hide.L0 x1 x2 x3 x11 x12 x226000 x226001 = if x12 ≤ x2 then (if (wrap64 (x12 - x3)) < 0 then (hushref6_Hide.J5 x1 x2 x3 x11 x12 (wrap64 (-(wrap64 (x12 - x3)))) x226000 x226001) else (hushref6_Hide.J5 x1 x2 x3 x11 x12 (wrap64 (x12 - x3)) x226000 x226001)) else ((hushref2_Make.F x11).bind fun bt239 => (some (bt239.1, bt239.2))) := by
 refine LimIs.step' (hushref6_Hide.L0_is x1 x2 x3 x11 x12 x226000 x226001).1 (b := fun k => if x12 ≤ x2 then (if (wrap64 (x12 - x3)) < 0 then (hushref6_Hide.j5 k x1 x2 x3 x11 x12 (wrap64 (-(wrap64 (x12 - x3)))) x226000 x226001) else (hushref6_Hide.j5 k x1 x2 x3 x11 x12 (wrap64 (x12 - x3)) x226000 x226001)) else ((hushref2_Make.f k x11).bind fun bt239 => (some (bt239.1, bt239.2)))) (fun k => by rfl) ?_
 repeat' first
  | (with_reducible exact hushref6_Hide.J5_is _ _ _ _ _ _ _ _)
  | (with_reducible exact hushref2_Make.F_is _)
  | (with_reducible exact LimIs.const _)
  | (with_reducible refine LimIs.ite ?_ ?_)
  | (with_reducible refine LimIs.bind ?_ (fun _ => ?_))
theorem hushref6_Hide.J5_eq (x1 : Int) (x2 : Int) (x3 : Int) (x11 : List (S64)) (x12 : Int) (x13 : Int) (x226000 : Int) (x226001 : Int) : hushref6_Hide.J5 x1 x2 x3 x11 x12 x13 x226000 x226001 = if x12 = x1 then (hushref6_Hide.J6 x1 x2 x3 x11 x12 x13 (wrap64 (x226000 - x226001)) true x226000 x226001) else (hushref6_Hide.J6 x1 x2 x3 x11 x12 x13 (wrap64 (x226000 - x226001)) (x12 == x2) x226000 x226001) := by
 refine LimIs.step' (hushref6_Hide.J5_is x1 x2 x3 x11 x12 x13 x226000 x226001).1 (b := fun k => if x12 = x1 then (hushref6_Hide.j6 k x1 x2 x3 x11 x12 x13 (wrap64 (x226000 - x226001)) true x226000 x226001) else (hushref6_Hide.j6 k x1 x2 x3 x11 x12 x13 (wrap64 (x226000 - x226001)) (x12 == x2) x226000 x226001)) (fun k => by rfl) ?_
 repeat' first
  | (with_reducible exact hushref6_Hide.J6_is _ _ _ _ _ _ _ _ _ _)
  | (with_reducible refine LimIs.ite ?_ ?_)
theorem hushref6_Hide.J6_eq (x1 : Int) (x2 : Int) (x3 : Int) (x11 : List (S64)) (x12 : Int) (x13 : Int) (x14 : Int) (x102 : Bool) (x226000 : Int) (x226001 : Int) : hushref6_Hide.J6 x1 x2 x3 x11 x12 x13 x14 x102 x226000 x226001 = if x102 = true then ((hushref6_Power.F x226001 x13).bind fun t246 => ((hushref6_Power.F x226000 (wrap64 ((wrap64 (x2 - x1)) - x13))).bind fun t247 => (if x11.length < 4398046511104 then (hushref6_Hide.L0 x1 x2 x3 (x11 ++ [(⟨(([x12] : List Int)), wrap64 ((wrap64 (x226000 * t246)) * t247)⟩ : S64)]) (wrap64 (x12 + 1)) x226000 x226001) else (none)))) else ((hushref6_Power.F x226001 x13).bind fun t254 => ((hushref6_Power.F x226000 (wrap64 ((wrap64 (x2 - x1)) - x13))).bind fun t255 => (if x11.length < 4398046511104 then (hushref6_Hide.L0 x1 x2 x3 (x11 ++ [(⟨(([x12] : List Int)), wrap64 ((wrap64 (x14 * t254)) * t255)⟩ : S64)]) (wrap64 (x12 + 1)) x226000 x226001) else (none)))) := by
 refine LimIs.step' (hushref6_Hide.J6_is x1 x2 x3 x11 x12 x13 x14 x102 x226000 x226001).1 (b := fun k => if x102 = true then ((hushref6_Power.f k x226001 x13).bind fun t246 => ((hushref6_Power.f k x226000 (wrap64 ((wrap64 (x2 - x1)) - x13))).bind fun t247 => (if x11.length < 4398046511104 then (hushref6_Hide.l0 k x1 x2 x3 (x11 ++ [(⟨(([x12] : List Int)), wrap64 ((wrap64 (x226000 * t246)) * t247)⟩ : S64)]) (wrap64 (x12 + 1)) x226000 x226001) else (none)))) else ((hushref6_Power.f k x226001 x13).bind fun t254 => ((hushref6_Power.f k x226000 (wrap64 ((wrap64 (x2 - x1)) - x13))).bind fun t255 => (if x11.length < 4398046511104 then (hushref6_Hide.l0 k x1 x2 x3 (x11 ++ [(⟨(([x12] : List Int)), wrap64 ((wrap64 (x14 * t254)) * t255)⟩ : S64)]) (wrap64 (x12 + 1)) x226000 x226001) else (none))))) (fun k => by rfl) ?_
 repeat' first
  | (with_reducible exact hushref6_Power.F_is _ _)
  | (with_reducible exact hushref6_Hide.L0_is _ _ _ _ _ _ _)
  | (with_reducible exact LimIs.const _)
  | (with_reducible refine LimIs.ite ?_ ?_)
  | (with_reducible refine LimIs.bind ?_ (fun _ => ?_))
theorem hushref6_Hide.F_eq (a0_0 : Int) (a0_1 : Int) (a1 : Int) (a2 : Int) (a3 : Int) : hushref6_Hide.F a0_0 a0_1 a1 a2 a3 = (hushref6_Loss.F a0_0 a0_1).bind fun t226 => (if t226 = 0 then (if a1 < (-1073741824) then (hushref6_Hide.J0 a1 a2 a3 true a0_0 a0_1) else (if a2 > 1073741824 then (hushref6_Hide.J0 a1 a2 a3 true a0_0 a0_1) else (if a2 < a1 then (hushref6_Hide.J0 a1 a2 a3 true a0_0 a0_1) else (hushref6_Hide.J0 a1 a2 a3 (decide (a2 > (wrap64 (a1 + 64)))) a0_0 a0_1)))) else (some (([] : List (S64)), t226))) := by
 refine LimIs.out (?_ : LimIs (fun k => (hushref6_Loss.f k a0_0 a0_1).bind fun t226 => (if t226 = 0 then (if a1 < (-1073741824) then (hushref6_Hide.j0 k a1 a2 a3 true a0_0 a0_1) else (if a2 > 1073741824 then (hushref6_Hide.j0 k a1 a2 a3 true a0_0 a0_1) else (if a2 < a1 then (hushref6_Hide.j0 k a1 a2 a3 true a0_0 a0_1) else (hushref6_Hide.j0 k a1 a2 a3 (decide (a2 > (wrap64 (a1 + 64)))) a0_0 a0_1)))) else (some (([] : List (S64)), t226)))) _)
 repeat' first
  | (with_reducible exact hushref6_Loss.F_is _ _)
  | (with_reducible exact hushref6_Hide.J0_is _ _ _ _ _ _)
  | (with_reducible exact LimIs.const _)
  | (with_reducible refine LimIs.ite ?_ ?_)
  | (with_reducible refine LimIs.bind ?_ (fun _ => ?_))
end Go.Proofs.Ytjbgnlhgjgnclaa.PB
end
section
namespace Go.Proofs.Ytjbgnlhgjgnclaa.PB
set_option maxRecDepth 100000
open Go.RowKit Go.Proofs.YtjbgnlhgjgnclaaW.PrintWords Go.Proofs.YtjbgnlhgjgnclaaW.PrintLast Go.Proofs.YtjbgnlhgjgnclaaW.PrintMore
open Go.Proofs.YtjbgnlhgjgnclaaW.EvKit
set_option linter.unusedVariables false
noncomputable def noise_ways.L0 (x1 : Int) (x2 : Int) (x7 : List Int) (x14 : Int) (x15 : Int) (x139000 : Int) (x139001 : Int) : Option (List Int) := lim (fun k => noise_ways.l0 k x1 x2 x7 x14 x15 x139000 x139001)
theorem noise_ways.L0_is (x1 : Int) (x2 : Int) (x7 : List Int) (x14 : Int) (x15 : Int) (x139000 : Int) (x139001 : Int) : LimIs (fun k => noise_ways.l0 k x1 x2 x7 x14 x15 x139000 x139001) (noise_ways.L0 x1 x2 x7 x14 x15 x139000 x139001) := ⟨fun k => (noise_ways.mono_l k) x1 x2 x7 x14 x15 x139000 x139001, rfl⟩
noncomputable def noise_ways.F (a0_0 : Int) (a0_1 : Int) (a1 : Int) (a2 : Int) : Option (List Int) := lim (fun k => noise_ways.f k a0_0 a0_1 a1 a2)
theorem noise_ways.F_is (a0_0 : Int) (a0_1 : Int) (a1 : Int) (a2 : Int) : LimIs (fun k => noise_ways.f k a0_0 a0_1 a1 a2) (noise_ways.F a0_0 a0_1 a1 a2) := ⟨fun k => noise_ways.mono a0_0 a0_1 a1 a2 k, rfl⟩
theorem noise_ways.L0_eq (x1 : Int) (x2 : Int) (x7 : List Int) (x14 : Int) (x15 : Int) (x139000 : Int) (x139001 : Int) : noise_ways.L0 x1 x2 x7 x14 x15 x139000 x139001 = if x15 < x14 then ((noise_power.F x139001 (mx (wrap64 (x15 - x2)) (wrap64 (x2 - x15)))).bind fun t142 => ((noise_power.F x139000 (wrap64 (x1 - (mx (wrap64 (x15 - x2)) (wrap64 (x2 - x15)))))).bind fun t143 => (if 0 ≤ x15 then (if x15 < (x7.length : Int) then ((some (x7.set (x15 : Int).toNat (wrap64 (t142 * t143)) : List Int)).bind fun y144 => (if x15 = 0 then (noise_ways.L0 x1 x2 (y144.set (x15 : Int).toNat (wrap64 ((rd y144 x15) * x139000))) x14 (wrap64 (x15 + 1)) x139000 x139001) else (if x15 = x1 then (noise_ways.L0 x1 x2 (y144.set (x15 : Int).toNat (wrap64 ((rd y144 x15) * x139000))) x14 (wrap64 (x15 + 1)) x139000 x139001) else (noise_ways.L0 x1 x2 (y144.set (x15 : Int).toNat (wrap64 ((rd y144 x15) * (wrap64 (x139000 - x139001))))) x14 (wrap64 (x15 + 1)) x139000 x139001)))) else (none)) else (none)))) else (some x7) := by
 refine LimIs.step' (noise_ways.L0_is x1 x2 x7 x14 x15 x139000 x139001).1 (b := fun k => if x15 < x14 then ((noise_power.f k x139001 (mx (wrap64 (x15 - x2)) (wrap64 (x2 - x15)))).bind fun t142 => ((noise_power.f k x139000 (wrap64 (x1 - (mx (wrap64 (x15 - x2)) (wrap64 (x2 - x15)))))).bind fun t143 => (if 0 ≤ x15 then (if x15 < (x7.length : Int) then ((some (x7.set (x15 : Int).toNat (wrap64 (t142 * t143)) : List Int)).bind fun y144 => (if x15 = 0 then (noise_ways.l0 k x1 x2 (y144.set (x15 : Int).toNat (wrap64 ((rd y144 x15) * x139000))) x14 (wrap64 (x15 + 1)) x139000 x139001) else (if x15 = x1 then (noise_ways.l0 k x1 x2 (y144.set (x15 : Int).toNat (wrap64 ((rd y144 x15) * x139000))) x14 (wrap64 (x15 + 1)) x139000 x139001) else (noise_ways.l0 k x1 x2 (y144.set (x15 : Int).toNat (wrap64 ((rd y144 x15) * (wrap64 (x139000 - x139001))))) x14 (wrap64 (x15 + 1)) x139000 x139001)))) else (none)) else (none)))) else (some x7)) (fun k => by rfl) ?_
 repeat' first
  | (with_reducible exact noise_power.F_is _ _)
  | (with_reducible exact noise_ways.L0_is _ _ _ _ _ _ _)
  | (with_reducible exact LimIs.const _)
  | (with_reducible refine LimIs.ite ?_ ?_)
  | (with_reducible refine LimIs.bind ?_ (fun _ => ?_))
theorem noise_ways.F_eq (a0_0 : Int) (a0_1 : Int) (a1 : Int) (a2 : Int) : noise_ways.F a0_0 a0_1 a1 a2 = if 0 ≤ (wrap64 (a1 + 1)) then (if (wrap64 (a1 + 1) : Int).toNat ≤ 35184372088832 then ((some (List.replicate (wrap64 (a1 + 1) : Int).toNat 0 : List Int)).bind fun y139 => (noise_ways.L0 a1 a2 y139 (y139.length : Int) 0 a0_0 a0_1)) else (none)) else (none) := by
 refine LimIs.out (?_ : LimIs (fun k => if 0 ≤ (wrap64 (a1 + 1)) then (if (wrap64 (a1 + 1) : Int).toNat ≤ 35184372088832 then ((some (List.replicate (wrap64 (a1 + 1) : Int).toNat 0 : List Int)).bind fun y139 => (noise_ways.l0 k a1 a2 y139 (y139.length : Int) 0 a0_0 a0_1)) else (none)) else (none)) _)
 repeat' first
  | (with_reducible exact noise_ways.L0_is _ _ _ _ _ _ _)
  | (with_reducible exact LimIs.const _)
  | (with_reducible refine LimIs.ite ?_ ?_)
  | (with_reducible refine LimIs.bind ?_ (fun _ => ?_))
end Go.Proofs.Ytjbgnlhgjgnclaa.PB
end
section
namespace Go.Proofs.Ytjbgnlhgjgnclaa.PB
set_option maxRecDepth 100000
open Go.RowKit Go.Proofs.YtjbgnlhgjgnclaaW.PrintWords Go.Proofs.YtjbgnlhgjgnclaaW.PrintLast Go.Proofs.YtjbgnlhgjgnclaaW.PrintMore
open Go.Proofs.YtjbgnlhgjgnclaaW.EvKit
set_option linter.unusedVariables false
noncomputable def noise_Hide.J0 (x1 : Int) (x2 : Int) (x3 : Int) (x37 : Bool) (x152000 : Int) (x152001 : Int) : Option ((List (S64)) × Int) := lim (fun k => noise_Hide.j0 k x1 x2 x3 x37 x152000 x152001)
theorem noise_Hide.J0_is (x1 : Int) (x2 : Int) (x3 : Int) (x37 : Bool) (x152000 : Int) (x152001 : Int) : LimIs (fun k => noise_Hide.j0 k x1 x2 x3 x37 x152000 x152001) (noise_Hide.J0 x1 x2 x3 x37 x152000 x152001) := ⟨fun k => (noise_Hide.mono_l k).1 x1 x2 x3 x37 x152000 x152001, rfl⟩
noncomputable def noise_Hide.J1 (x1 : Int) (x2 : Int) (x3 : Int) (x63 : Bool) (x152000 : Int) (x152001 : Int) : Option ((List (S64)) × Int) := lim (fun k => noise_Hide.j1 k x1 x2 x3 x63 x152000 x152001)
theorem noise_Hide.J1_is (x1 : Int) (x2 : Int) (x3 : Int) (x63 : Bool) (x152000 : Int) (x152001 : Int) : LimIs (fun k => noise_Hide.j1 k x1 x2 x3 x63 x152000 x152001) (noise_Hide.J1 x1 x2 x3 x63 x152000 x152001) := ⟨fun k => (noise_Hide.mono_l k).2.1 x1 x2 x3 x63 x152000 x152001, rfl⟩
noncomputable def noise_Hide.L0 (x1 : Int) (x13 : List (S64)) (x76 : List Int) (x77 : Int) (x78 : Int) : Option ((List (S64)) × Int) := lim (fun k => noise_Hide.l0 k x1 x13 x76 x77 x78)
theorem noise_Hide.L0_is (x1 : Int) (x13 : List (S64)) (x76 : List Int) (x77 : Int) (x78 : Int) : LimIs (fun k => noise_Hide.l0 k x1 x13 x76 x77 x78) (noise_Hide.L0 x1 x13 x76 x77 x78) := ⟨fun k => (noise_Hide.mono_l k).2.2 x1 x13 x76 x77 x78, rfl⟩
noncomputable def noise_Hide.F (a0_0 : Int) (a0_1 : Int) (a1 : Int) (a2 : Int) (a3 : Int) : Option ((List (S64)) × Int) := lim (fun k => noise_Hide.f k a0_0 a0_1 a1 a2 a3)
theorem noise_Hide.F_is (a0_0 : Int) (a0_1 : Int) (a1 : Int) (a2 : Int) (a3 : Int) : LimIs (fun k => noise_Hide.f k a0_0 a0_1 a1 a2 a3) (noise_Hide.F a0_0 a0_1 a1 a2 a3) := ⟨fun k => noise_Hide.mono a0_0 a0_1 a1 a2 a3 k, rfl⟩
theorem noise_Hide.J0_eq (x1 : Int) (x2 : Int) (x3 : Int) (x37 : Bool) (x152000 : Int) (x152001 : Int) : noise_Hide.J0 x1 x2 x3 x37 x152000 x152001 = if x37 = true then (some (([] : List (S64)), 3)) else (if x1 = x2 then ((dist_Sure.F (([x1] : List Int))).bind fun bt156 => (some (bt156.1, bt156.2))) else ((noise_power.F x152000 (wrap64 (x2 - x1))).bind fun t160 => (if t160 > 1073741824 then (noise_Hide.J1 x1 x2 x3 true x152000 x152001) else (noise_Hide.J1 x1 x2 x3 (decide ((wrap64 (t160 * (wrap64 (x152000 + x152001)))) > 1073741824)) x152000 x152001)))) := by
 refine LimIs.step' (noise_Hide.J0_is x1 x2 x3 x37 x152000 x152001).1 (b := fun k => if x37 = true then (some (([] : List (S64)), 3)) else (if x1 = x2 then ((dist_Sure.f k (([x1] : List Int))).bind fun bt156 => (some (bt156.1, bt156.2))) else ((noise_power.f k x152000 (wrap64 (x2 - x1))).bind fun t160 => (if t160 > 1073741824 then (noise_Hide.j1 k x1 x2 x3 true x152000 x152001) else (noise_Hide.j1 k x1 x2 x3 (decide ((wrap64 (t160 * (wrap64 (x152000 + x152001)))) > 1073741824)) x152000 x152001))))) (fun k => by rfl) ?_
 repeat' first
  | (with_reducible exact dist_Sure.F_is _)
  | (with_reducible exact noise_power.F_is _ _)
  | (with_reducible exact noise_Hide.J1_is _ _ _ _ _ _)
  | (with_reducible exact LimIs.const _)
  | (with_reducible refine LimIs.ite ?_ ?_)
  | (with_reducible refine LimIs.bind ?_ (fun _ => ?_))
theorem noise_Hide.J1_eq (x1 : Int) (x2 : Int) (x3 : Int) (x63 : Bool) (x152000 : Int) (x152001 : Int) : noise_Hide.J1 x1 x2 x3 x63 x152000 x152001 = if x63 = true then (some (([] : List (S64)), 4)) else ((noise_ways.F x152000 x152001 (wrap64 (x2 - x1)) (wrap64 ((mn (mx x3 x1) x2) - x1))).bind fun t161 => (noise_Hide.L0 x1 ([] : List (S64)) t161 (t161.length : Int) 0)) := by
 refine LimIs.step' (noise_Hide.J1_is x1 x2 x3 x63 x152000 x152001).1 (b := fun k => if x63 = true then (some (([] : List (S64)), 4)) else ((noise_ways.f k x152000 x152001 (wrap64 (x2 - x1)) (wrap64 ((mn (mx x3 x1) x2) - x1))).bind fun t161 => (noise_Hide.l0 k x1 ([] : List (S64)) t161 (t161.length : Int) 0))) (fun k => by rfl) ?_
 repeat' first
  | (with_reducible exact noise_ways.F_is _ _ _ _)
  | (with_reducible exact noise_Hide.L0_is _ _ _ _ _)
  | (with_reducible exact LimIs.const _)
  | (with_reducible refine LimIs.ite ?_ ?_)
  | (with_reducible refine LimIs.bind ?_ (fun _ => ?_))
theorem noise_Hide.L0_eq (x1 : Int) (x13 : List (S64)) (x76 : List Int) (x77 : Int) (x78 : Int) : noise_Hide.L0 x1 x13 x76 x77 x78 = if x78 < x77 then (if 0 ≤ x78 then (if x78 < (x76.length : Int) then (if x13.length < 4398046511104 then (noise_Hide.L0 x1 (x13 ++ [(⟨(([wrap64 (x1 + x78)] : List Int)), rd x76 x78⟩ : S64)]) x76 x77 (wrap64 (x78 + 1))) else (none)) else (none)) else (none)) else ((dist_Make.F x13).bind fun bt171 => (some (bt171.1, bt171.2))) := by
 refine LimIs.step' (noise_Hide.L0_is x1 x13 x76 x77 x78).1 (b := fun k => if x78 < x77 then (if 0 ≤ x78 then (if x78 < (x76.length : Int) then (if x13.length < 4398046511104 then (noise_Hide.l0 k x1 (x13 ++ [(⟨(([wrap64 (x1 + x78)] : List Int)), rd x76 x78⟩ : S64)]) x76 x77 (wrap64 (x78 + 1))) else (none)) else (none)) else (none)) else ((dist_Make.f k x13).bind fun bt171 => (some (bt171.1, bt171.2)))) (fun k => by rfl) ?_
 repeat' first
  | (with_reducible exact noise_Hide.L0_is _ _ _ _ _)
  | (with_reducible exact dist_Make.F_is _)
  | (with_reducible exact LimIs.const _)
  | (with_reducible refine LimIs.ite ?_ ?_)
  | (with_reducible refine LimIs.bind ?_ (fun _ => ?_))
theorem noise_Hide.F_eq (a0_0 : Int) (a0_1 : Int) (a1 : Int) (a2 : Int) (a3 : Int) : noise_Hide.F a0_0 a0_1 a1 a2 a3 = (noise_loss.F a0_0 a0_1).bind fun t152 => (if t152 = 0 then (if a1 < (-1073741824) then (noise_Hide.J0 a1 a2 a3 true a0_0 a0_1) else (if a2 > 1073741824 then (noise_Hide.J0 a1 a2 a3 true a0_0 a0_1) else (if a1 > a2 then (noise_Hide.J0 a1 a2 a3 true a0_0 a0_1) else (noise_Hide.J0 a1 a2 a3 (decide ((wrap64 (a2 - a1)) > 64)) a0_0 a0_1)))) else (some (([] : List (S64)), t152))) := by
 refine LimIs.out (?_ : LimIs (fun k => (noise_loss.f k a0_0 a0_1).bind fun t152 => (if t152 = 0 then (if a1 < (-1073741824) then (noise_Hide.j0 k a1 a2 a3 true a0_0 a0_1) else (if a2 > 1073741824 then (noise_Hide.j0 k a1 a2 a3 true a0_0 a0_1) else (if a1 > a2 then (noise_Hide.j0 k a1 a2 a3 true a0_0 a0_1) else (noise_Hide.j0 k a1 a2 a3 (decide ((wrap64 (a2 - a1)) > 64)) a0_0 a0_1)))) else (some (([] : List (S64)), t152)))) _)
 repeat' first
  | (with_reducible exact noise_loss.F_is _ _)
  | (with_reducible exact noise_Hide.J0_is _ _ _ _ _ _)
  | (with_reducible exact LimIs.const _)
  | (with_reducible refine LimIs.ite ?_ ?_)
  | (with_reducible refine LimIs.bind ?_ (fun _ => ?_))
end Go.Proofs.Ytjbgnlhgjgnclaa.PB
end
section
namespace Go.Proofs.Ytjbgnlhgjgnclaa.DistPure
set_option linter.unusedVariables false
set_option linter.unusedSimpArgs false
open Go.RowKit Go.Proofs.Ytjbgnlhgjgnclaa.PB Go.Proofs.YtjbgnlhgjgnclaaW.PrintWords Go.Proofs.YtjbgnlhgjgnclaaW.PrintLast Go.Proofs.YtjbgnlhgjgnclaaW.PrintMore Go.Proofs.YtjbgnlhgjgnclaaW.EvKit
theorem rdAt {xs : List Int} {i : Nat} (h : i < xs.length) : rd xs (i : Int) = xs[i] := by
 rw [rd_nat, List.getD_eq_getElem?_getD, List.getElem?_eq_getElem h]; rfl
theorem rd32At {xs : List S64} {i : Nat} (h : i < xs.length) : rd_T64 xs (i : Int) = xs[i] := by
 unfold rd_T64
 rw [Int.toNat_natCast, List.getD_eq_getElem?_getD, List.getElem?_eq_getElem h]; rfl
theorem w1 {i : Nat} (h : i < 4611686018427387904) : wrap64 ((i : Int) + 1) = ((i + 1 : Nat) : Int) := by rw [wrap64_of (by omega) (by omega)]; rfl
theorem rcmp_loop (x y : List Int) (hx : x.length ≤ 1048576) (hy : y.length ≤ 1048576) : ∀ (n i : Nat), i + n = x.length → i ≤ y.length →
  hushref2_Compare.L0 x y (x.length : Int) (i : Int) = some (cmpL (x.drop i) (y.drop i)) := by
 intro n
 induction n with
 | zero =>
  intro i hi h
  rw [hushref2_Compare.L0_eq, if_neg (by omega), List.drop_of_length_le (show x.length ≤ i by omega)]
  rcases Nat.lt_or_ge i y.length with h2 | h2
  ·
   rw [if_pos (by omega), List.drop_eq_getElem_cons h2]
   rfl
  ·
   rw [if_neg (by omega), List.drop_of_length_le h2]
   rfl
 | succ n ih =>
  intro i hi h
  have hxi : i < x.length := by omega
  rw [hushref2_Compare.L0_eq, if_pos (by omega), List.drop_eq_getElem_cons hxi]
  rcases Nat.lt_or_ge i y.length with h2 | h2
  ·
   rw [if_neg (by omega), if_pos (by omega), if_pos (by omega), if_pos (by omega), List.drop_eq_getElem_cons h2, rdAt hxi, rdAt h2, cmpL]
   by_cases c : x[i] = y[i]
   ·
    rw [if_pos c, if_neg (by omega), if_neg (by omega), w1 (by omega)]
    exact ih (i + 1) (by omega) (by omega)
   ·
    rw [if_neg c]
    by_cases c1 : x[i] < y[i]
    ·
     rw [if_pos c1, if_pos c1]
    ·
     rw [if_neg c1, if_neg c1, if_pos (by omega)]
  ·
   rw [if_pos (by omega), List.drop_of_length_le h2]
   rfl
theorem rcmpF (x y : List Int) (hx : x.length ≤ 1048576) (hy : y.length ≤ 1048576) : hushref2_Compare.F x y = some (cmpL x y) := by
 rw [hushref2_Compare.F_eq]
 exact rcmp_loop x y hx hy x.length 0 (by omega) (by omega)
theorem cmpL0 {a b : List Int} : cmpL a b = 0 ↔ a = b := ⟨cmpL_eq a b, fun h => by rw [h, cmpL_self]⟩
def okN (n : Int) : Bool := decide (-1073741824 ≤ n) && decide (n ≤ 1073741824)
def smallB (o : List Int) : Bool := decide (o.length ≤ 16) && o.all okN
theorem small1 (n : Int) : dist_small_1.f n = some (!okN n) := by
 unfold dist_small_1.f okN
 by_cases h : n < -1073741824
 ·
  rw [if_pos h]; congr 1; symm; simp; omega
 ·
  rw [if_neg h]; congr 1; rw [Bool.eq_iff_iff]; simp; omega
theorem index_loop (x : List Int) (hx : x.length ≤ 1048576) : ∀ (n i : Nat), i + n = x.length →
  ∃ r, slices_IndexFunc_int_int.L0 x (x.length : Int) (i : Int) = some r ∧ decide (r ≥ 0) = !((x.drop i).all okN) := by
 intro n
 induction n with
 | zero =>
  intro i hi
  refine ⟨-1, ?_, ?_⟩
  ·
   rw [slices_IndexFunc_int_int.L0_eq, if_neg (by omega)]
  ·
   rw [List.drop_of_length_le (show x.length ≤ i by omega)]; rfl
 | succ n ih =>
  intro i hi
  have hxi : i < x.length := by omega
  rw [slices_IndexFunc_int_int.L0_eq, if_pos (by omega), if_pos (by omega), if_pos (by omega), rdAt hxi, small1, Option.bind_some, List.drop_eq_getElem_cons hxi, List.all_cons]
  cases h : okN x[i] with
  | false => exact ⟨i, if_pos rfl, by simp⟩
  | true =>
   obtain ⟨r, h1, h2⟩ := ih (i + 1) (by omega)
   refine ⟨r, ?_, by rw [h2]; rfl⟩
   rw [if_neg (by decide), w1 (by omega)]
   exact h1
theorem smallF (o : List Int) (h : o.length ≤ 1048576) : dist_small.F o = some (smallB o) := by
 rw [dist_small.F_eq]
 unfold smallB
 by_cases c : o.length ≤ 16
 ·
  obtain ⟨r, h1, h2⟩ := index_loop o h o.length 0 (by omega)
  rw [if_pos (by omega), slices_ContainsFunc_int_int.F_eq, slices_IndexFunc_int_int.F_eq]
  rw [show (0 : Int) = ((0 : Nat) : Int) from rfl, h1]
  rw [Option.bind_some, Option.bind_some]
  have h2 : decide (r ≥ ((0 : Nat) : Int)) = !((o.drop 0).all okN) := h2
  rw [h2, List.drop_zero, decide_eq_true c]
  simp
 ·
  rw [if_neg (by omega), decide_eq_false c]; rfl
theorem rsmall_loop (x : List Int) (hx : x.length ≤ 1048576) : ∀ (n i : Nat), i + n = x.length →
  hushref2_Small.L0 x (x.length : Int) (i : Int) = some ((x.drop i).all okN) := by
 intro n
 induction n with
 | zero =>
  intro i hi
  rw [hushref2_Small.L0_eq, if_neg (by omega), List.drop_of_length_le (show x.length ≤ i by omega)]
  rfl
 | succ n ih =>
  intro i hi
  have hxi : i < x.length := by omega
  rw [hushref2_Small.L0_eq, if_pos (by omega), if_pos (by omega), if_pos (by omega), rdAt hxi, List.drop_eq_getElem_cons hxi, List.all_cons]
  by_cases c1 : x[i] > 1073741824
  ·
   rw [if_pos c1, show okN x[i] = false by unfold okN; simp; omega]; rfl
  ·
   rw [if_neg c1]
   by_cases c2 : x[i] < -1073741824
   ·
    rw [if_pos c2, show okN x[i] = false by unfold okN; simp; omega]; rfl
   ·
    rw [if_neg c2, show okN x[i] = true by unfold okN; simp; omega, Bool.true_and, w1 (by omega)]
    exact ih (i + 1) (by omega)
theorem rsmallF (o : List Int) (h : o.length ≤ 1048576) : hushref2_Small.F o = some (smallB o) := by
 rw [hushref2_Small.F_eq]
 unfold smallB
 by_cases c : o.length ≤ 16
 ·
  rw [if_neg (by omega), decide_eq_true c, Bool.true_and]
  exact rsmall_loop o h o.length 0 (by omega)
 ·
  rw [if_pos (by omega), decide_eq_false c]; rfl
theorem totOf_cons (p : S64) (l : List S64) : totOf (p :: l) = p.f1 + totOf l := rfl
theorem totOf_nil : totOf [] = 0 := rfl
theorem tot_ge : ∀ {l : List S64}, (∀ p ∈ l, 0 ≤ p.f1) → 0 ≤ totOf l
 | [], _ => Int.le_refl _
 | p :: l, h => by
  have := tot_ge (l := l) (fun q hq => h q (by simp [hq]))
  have := h p (by simp)
  rw [totOf_cons]; omega
theorem wOf_le : ∀ {l : List S64}, (∀ p ∈ l, 0 ≤ p.f1) → ∀ o, 0 ≤ wOf l o ∧ wOf l o ≤ totOf l
 | [], _, _ => ⟨Int.le_refl _, Int.le_refl _⟩
 | p :: l, h, o => by
  have := wOf_le (l := l) (fun q hq => h q (by simp [hq])) o
  have := h p (by simp)
  rw [totOf_cons, wOf_cons]
  split <;> omega
theorem tot_bd : ∀ {l : List S64}, (∀ p ∈ l, 0 ≤ p.f1 ∧ p.f1 ≤ 1073741824) → totOf l ≤ 1073741824 * (l.length : Int)
 | [], _ => Int.le_refl _
 | p :: l, h => by
  have := tot_bd (l := l) (fun q hq => h q (by simp [hq]))
  have := h p (by simp)
  rw [totOf_cons, List.length_cons]; omega
theorem mem_at {l : List S64} {i : Nat} (h : i < l.length) : l[i] ∈ l := List.getElem_mem h
theorem drop_in {l : List S64} {i : Nat} {P : S64 → Prop} (h : ∀ p ∈ l, P p) : ∀ p ∈ l.drop i, P p := fun p hp => h p (List.mem_of_mem_drop hp)
theorem rtot_loop (x : List S64) (hx : x.length ≤ 1048576) (h0 : ∀ p ∈ x, 0 ≤ p.f1) : ∀ (n i : Nat) (a : Int), i + n = x.length → 0 ≤ a → a + totOf (x.drop i) ≤ 4611686018427387904 →
  hushref2_Total.L0 a x (x.length : Int) (i : Int) = some (a + totOf (x.drop i)) := by
 intro n
 induction n with
 | zero =>
  intro i a hi _ _
  rw [hushref2_Total.L0_eq, if_neg (by omega), List.drop_of_length_le (show x.length ≤ i by omega), totOf_nil, Int.add_zero]
 | succ n ih =>
  intro i a hi ha hb
  have hxi : i < x.length := by omega
  have hm := h0 _ (mem_at hxi)
  have hr := tot_ge (drop_in (i := i + 1) h0)
  rw [List.drop_eq_getElem_cons hxi, totOf_cons] at hb ⊢
  rw [hushref2_Total.L0_eq, if_pos (by omega), if_pos (by omega), if_pos (by omega), rd32At hxi, w1 (by omega), wrap64_of (by omega) (by omega), ih (i + 1) _ (by omega) (by omega) (by omega)]
  congr 1
  omega
theorem rtotF (l : List S64) (hl : l.length ≤ 1048576) (h0 : ∀ p ∈ l, 0 ≤ p.f1) (ht : totOf l ≤ 4611686018427387904) : hushref2_Total.F l = some (totOf l) := by
 rw [hushref2_Total.F_eq]
 have h := rtot_loop l hl h0 l.length 0 0 (by omega) (by omega) (by rw [List.drop_zero]; omega)
 rw [List.drop_zero, Int.zero_add] at h
 exact h
theorem weight_loop (o : List Int) (ho : o.length ≤ 1048576) (x : List S64) (hx : x.length ≤ 1048576) (h1 : ∀ p ∈ x, p.f0.length ≤ 1048576) (h0 : ∀ p ∈ x, 0 ≤ p.f1) : ∀ (n i : Nat) (a : Int), i + n = x.length → 0 ≤ a → a + totOf (x.drop i) ≤ 4611686018427387904 →
  hushref2_Weight.L0 o a x (x.length : Int) (i : Int) = some (a + wOf (x.drop i) o) := by
 intro n
 induction n with
 | zero =>
  intro i a hi _ _
  rw [hushref2_Weight.L0_eq, if_neg (by omega), List.drop_of_length_le (show x.length ≤ i by omega)]
  congr 1
  exact (Int.add_zero a).symm
 | succ n ih =>
  intro i a hi ha hb
  have hxi : i < x.length := by omega
  have hm := h0 _ (mem_at hxi)
  have hr := tot_ge (drop_in (i := i + 1) h0)
  rw [List.drop_eq_getElem_cons hxi, totOf_cons] at hb
  rw [List.drop_eq_getElem_cons hxi, wOf_cons, hushref2_Weight.L0_eq, if_pos (by omega), if_pos (by omega), if_pos (by omega), rd32At hxi, rcmpF _ _ (h1 _ (mem_at hxi)) ho, Option.bind_some]
  by_cases c : x[i].f0 = o
  ·
   rw [if_pos (cmpL0.2 c), if_pos c, w1 (by omega), wrap64_of (by omega) (by omega), ih (i + 1) _ (by omega) (by omega) (by omega)]
   congr 1
   omega
  ·
   rw [if_neg (fun h => c (cmpL0.1 h)), if_neg c, w1 (by omega), ih (i + 1) _ (by omega) (by omega) (by omega)]
   congr 1
   omega
theorem weightF (l : List S64) (o : List Int) (ho : o.length ≤ 1048576) (hl : l.length ≤ 1048576) (h1 : ∀ p ∈ l, p.f0.length ≤ 1048576) (h0 : ∀ p ∈ l, 0 ≤ p.f1) (ht : totOf l ≤ 4611686018427387904) : hushref2_Weight.F l o = some (wOf l o) := by
 rw [hushref2_Weight.F_eq]
 have h := weight_loop o ho l hl h1 h0 l.length 0 0 (by omega) (by omega) (by rw [List.drop_zero]; omega)
 rw [List.drop_zero, Int.zero_add] at h
 exact h
end Go.Proofs.Ytjbgnlhgjgnclaa.DistPure
end
section
namespace Go.Proofs.Ytjbgnlhgjgnclaa.DistPure
set_option linter.unusedVariables false
set_option linter.unusedSimpArgs false
open Go.RowKit Go.Proofs.Ytjbgnlhgjgnclaa.PB Go.Proofs.YtjbgnlhgjgnclaaW.PrintWords Go.Proofs.YtjbgnlhgjgnclaaW.PrintLast Go.Proofs.YtjbgnlhgjgnclaaW.PrintMore Go.Proofs.YtjbgnlhgjgnclaaW.EvKit
theorem gcd_pos {u d : Int} (h : 1 ≤ d) : 0 < Int.gcd u d := by
 rcases Nat.eq_zero_or_pos (Int.gcd u d) with h0 | h0
 ·
  have := (Int.gcd_eq_zero_iff.1 h0).2
  omega
 ·
  exact h0
theorem quot {u : Int} {g : Nat} (hu : 0 ≤ u) (hu2 : u ≤ 9223372036854775807) : wrap64 (Int.tdiv u (g : Int)) = u / (g : Int) := by
 rw [Int.tdiv_eq_ediv_of_nonneg hu]
 have h0 : 0 ≤ u / (g : Int) := Int.ediv_nonneg hu (by omega)
 have h1 : u / (g : Int) ≤ u := Int.ediv_le_self _ hu
 exact wrap64_of (by omega) (by omega)
theorem tm2 (x : Nat) : Int.tmod (x : Int) 2 = ((x % 2 : Nat) : Int) := by rw [Int.tmod_eq_emod_of_nonneg (by omega)]; rfl
theorem td2 (x : Nat) (h : x ≤ 9223372036854775807) : wrap64 (Int.tdiv (x : Int) 2) = ((x / 2 : Nat) : Int) := by
 rw [Int.tdiv_eq_ediv_of_nonneg (by omega), wrap64_of (by omega) (by omega)]; rfl
theorem div_l2 : ∀ (t a : Nat), t ≤ 4611686018427387904 → a * 2 ^ t ≤ 9223372036854775807 → Ev (fun k => hushref1_Divisor.l2 k (a : Int) (t : Int)) ((a * 2 ^ t : Nat) : Int) := by
 intro t
 induction t with
 | zero =>
  intro a _ _
  refine Ev.step (fun k => hushref1_Divisor.l2.eq_2 _ _ k) (Ev.neg (by omega) ?_)
  simpa using Ev.ret _
 | succ t ih =>
  intro a ht h
  have h1 : a ≤ a * 2 ^ t := Nat.le_mul_of_pos_right _ (Nat.two_pow_pos t)
  rw [Nat.pow_succ] at h
  have h2 : a * (2 ^ t * 2) = 2 * a * 2 ^ t := by rw [Nat.mul_comm (2 ^ t) 2, ← Nat.mul_assoc, Nat.mul_comm a 2]
  rw [h2] at h
  have h3 : 2 * a ≤ 2 * a * 2 ^ t := Nat.le_mul_of_pos_right _ (Nat.two_pow_pos t)
  have h4 := ih (2 * a) (by omega) h
  refine Ev.step (fun k => hushref1_Divisor.l2.eq_2 _ _ k) (Ev.pos (by omega) ?_)
  have e1 : wrap64 (2 * (a : Int)) = ((2 * a : Nat) : Int) := by rw [wrap64_of (by omega) (by omega)]; omega
  have e2 : wrap64 (((t + 1 : Nat) : Int) - 1) = ((t : Nat) : Int) := by rw [wrap64_of (by omega) (by omega)]; omega
  simp only [e1, e2]
  rw [Nat.pow_succ, h2]
  exact h4
theorem gcd_half {x y : Nat} (hx : x % 2 = 0) (hy : y % 2 = 1) : Nat.gcd (x / 2) y = Nat.gcd x y := by
 have h : x = 2 * (x / 2) := by omega
 have hc : Nat.Coprime 2 y := by
  unfold Nat.Coprime
  rw [Nat.gcd_rec, hy]
  decide
 rw [h]
 simp only [Nat.mul_div_cancel_left _ (show 0 < 2 by decide)]
 exact (Nat.Coprime.gcd_mul_left_cancel (x / 2) hc).symm
theorem div_l1 : ∀ (n x y t : Nat) {r : Int}, x + y ≤ n → 0 < x → 0 < y → (x % 2 = 1 ∨ y % 2 = 1) → x ≤ 9223372036854775807 → y ≤ 9223372036854775807 →
  Ev (fun k => hushref1_Divisor.l2 k ((Nat.gcd x y : Nat) : Int) (t : Int)) r → Ev (fun k => hushref1_Divisor.l1 k (x : Int) (y : Int) (t : Int)) r := by
 intro n
 induction n with
 | zero => intro x y t r h hx; omega
 | succ n ih =>
  intro x y t r h hx hy ho bx bY hr
  by_cases he : x = y
  ·
   subst he
   rw [Nat.gcd_self] at hr
   exact Ev.step (fun k => hushref1_Divisor.l1.eq_2 _ _ _ k) (Ev.pos rfl hr)
  ·
   refine Ev.step (fun k => hushref1_Divisor.l1.eq_2 _ _ _ k) (Ev.neg (by omega) ?_)
   rw [tm2, tm2, td2 x bx, td2 y bY]
   by_cases h0 : x % 2 = 0
   ·
    refine Ev.pos (by omega) (ih (x / 2) y t (by omega) (by omega) hy (by omega) (by omega) bY ?_)
    rw [gcd_half h0 (by omega)]
    exact hr
   ·
    refine Ev.neg (by omega) ?_
    by_cases h1 : y % 2 = 0
    ·
     refine Ev.pos (by omega) (ih x (y / 2) t (by omega) hx (by omega) (by omega) bx (by omega) ?_)
     rw [Nat.gcd_comm, gcd_half h1 (by omega), Nat.gcd_comm]
     exact hr
    ·
     refine Ev.neg (by omega) ?_
     by_cases h2 : x > y
     ·
      refine Ev.pos (by omega) ?_
      have e : wrap64 ((x : Int) - (y : Int)) = ((x - y : Nat) : Int) := by rw [wrap64_of (by omega) (by omega)]; omega
      rw [e]
      refine ih (x - y) y t (by omega) (by omega) hy (by omega) (by omega) bY ?_
      rw [Nat.gcd_sub_self_left (by omega)]
      exact hr
     ·
      refine Ev.neg (by omega) ?_
      have e : wrap64 ((y : Int) - (x : Int)) = ((y - x : Nat) : Int) := by rw [wrap64_of (by omega) (by omega)]; omega
      rw [e]
      refine ih x (y - x) t (by omega) hx (by omega) (by omega) bx (by omega) ?_
      rw [Nat.gcd_sub_self_right (by omega)]
      exact hr
theorem div_l0 : ∀ (n x y t : Nat) {r : Int}, x ≤ n → 0 < x → 0 < y → x ≤ 9223372036854775807 → y ≤ 9223372036854775807 → t + n ≤ 9223372036854775807 →
  Ev (fun k => hushref1_Divisor.l2 k ((Nat.gcd x y : Nat) : Int) (t : Int)) r → Ev (fun k => hushref1_Divisor.l0 k (x : Int) (y : Int) (t : Int)) r := by
 intro n
 induction n with
 | zero => intro x y t r h hx; omega
 | succ n ih =>
  intro x y t r h hx hy bx bY ht hr
  have hj : (x % 2 = 1 ∨ y % 2 = 1) → Ev (fun k => hushref1_Divisor.j1 k (x : Int) (y : Int) (t : Int)) r := fun ho =>
   Ev.step (fun k => hushref1_Divisor.j1.eq_2 _ _ _ k) (div_l1 (x + y) x y t (Nat.le_refl _) hx hy ho bx bY hr)
  refine Ev.step (fun k => hushref1_Divisor.l0.eq_2 _ _ _ k) ?_
  rw [tm2, tm2, td2 x bx, td2 y bY]
  by_cases h0 : x % 2 = 0
  ·
   by_cases h1 : y % 2 = 0
   ·
    have e : wrap64 ((t : Int) + 1) = ((t + 1 : Nat) : Int) := by rw [wrap64_of (by omega) (by omega)]; omega
    refine Ev.pos (by omega) (Ev.pos (by omega) ?_)
    rw [e]
    refine ih (x / 2) (y / 2) (t + 1) (by omega) (by omega) (by omega) (by omega) (by omega) (by omega) ?_
    have hg : Nat.gcd x y = 2 * Nat.gcd (x / 2) (y / 2) := by
     rw [← Nat.gcd_mul_left]
     congr 1 <;> omega
    have hle : Nat.gcd x y ≤ x := Nat.gcd_le_left y hx
    refine Ev.step (fun k => hushref1_Divisor.l2.eq_2 _ _ k) (Ev.pos (by omega) ?_)
    have e1 : wrap64 (2 * ((Nat.gcd (x / 2) (y / 2) : Nat) : Int)) = ((Nat.gcd x y : Nat) : Int) := by rw [wrap64_of (by omega) (by omega)]; omega
    have e2 : wrap64 (((t + 1 : Nat) : Int) - 1) = ((t : Nat) : Int) := by rw [wrap64_of (by omega) (by omega)]; omega
    simp only [e1, e2]
    exact hr
   ·
    exact Ev.pos (by omega) (Ev.neg (by omega) (hj (by omega)))
  ·
   exact Ev.neg (by omega) (hj (by omega))
theorem div_ev {u d : Int} (hu : 0 ≤ u) (hd : 1 ≤ d) (bu : u ≤ 9223372036854775807) (bd : d ≤ 9223372036854775807) : Ev (fun k => hushref1_Divisor.f k u d) ((Int.gcd u d : Nat) : Int) := by
 obtain ⟨x, rfl⟩ := Int.eq_ofNat_of_zero_le hu
 obtain ⟨y, rfl⟩ := Int.eq_ofNat_of_zero_le (show 0 ≤ d by omega)
 by_cases h0 : x = 0
 ·
  subst h0
  refine Ev.pos rfl (Ev.eq (Ev.ret _) ?_)
  simp
 ·
  refine Ev.neg (by omega) ?_
  show Ev (fun k => hushref1_Divisor.l0 k (x : Int) (y : Int) 0) ((Nat.gcd x y : Nat) : Int)
  refine div_l0 x x y 0 (Nat.le_refl _) (by omega) (by omega) (by omega) (by omega) (by omega) ?_
  refine Ev.eq (div_l2 0 (Nat.gcd x y) (by omega) ?_) (by simp)
  have := Nat.gcd_le_left y (show 0 < x by omega)
  simp
  omega
theorem divF {u d : Int} (hu : 0 ≤ u) (hd : 1 ≤ d) (bu : u ≤ 9223372036854775807) (bd : d ≤ 9223372036854775807) : hushref1_Divisor.F u d = some ((Int.gcd u d : Nat) : Int) := (hushref1_Divisor.F_is u d).of_ev (div_ev hu hd bu bd)
def makeS (u d : Int) : Int × Int × Int :=
 if u < 0 ∨ d < 1 then (0, 0, 3) else
 if u / (Int.gcd u d : Nat) > 1073741824 ∨ d / (Int.gcd u d : Nat) > 1073741824 then (0, 0, 4) else (u / (Int.gcd u d : Nat), d / (Int.gcd u d : Nat), 0)
theorem make_j {f : Nat → Option Int} {u d : Int} (hf : 0 ≤ u → 1 ≤ d → Ev f ((Int.gcd u d : Nat) : Int)) (hu : -9223372036854775808 ≤ u ∧ u ≤ 9223372036854775807) (hd : -9223372036854775808 ≤ d ∧ d ≤ 9223372036854775807) (b : Bool) (hb : b = decide (u < 0 ∨ d < 1)) :
  Ev (fun k => if b = true then (some (0, 0, 3)) else ((f k).bind fun t => (if t = 0 then (none) else (if (wrap64 (Int.tdiv u t)) > 1073741824 then (some (0, 0, 4)) else (if (wrap64 (Int.tdiv d t)) > 1073741824 then (some (0, 0, 4)) else (some (wrap64 (Int.tdiv u t), wrap64 (Int.tdiv d t), 0))))))) (makeS u d) := by
 subst hb
 unfold makeS
 by_cases hn : u < 0 ∨ d < 1
 ·
  rw [if_pos hn]
  exact Ev.pos (by simpa using hn) (Ev.ret _)
 ·
  rw [if_neg hn]
  have h1 : 0 ≤ u ∧ 1 ≤ d := by omega
  have hg := gcd_pos (u := u) h1.2
  refine Ev.neg (by simpa using hn) (Ev.bind (hf h1.1 h1.2) (Ev.neg (by omega) ?_))
  rw [quot h1.1 hu.2, quot (by omega) hd.2]
  by_cases c1 : u / (Int.gcd u d : Nat) > 1073741824
  ·
   exact Ev.eq (r := (0, 0, 4)) (Ev.pos c1 (Ev.ret _)) (if_pos (Or.inl c1)).symm
  ·
   by_cases c2 : d / (Int.gcd u d : Nat) > 1073741824
   ·
    exact Ev.eq (r := (0, 0, 4)) (Ev.neg c1 (Ev.pos c2 (Ev.ret _))) (if_pos (Or.inr c2)).symm
   ·
    exact Ev.eq (Ev.neg c1 (Ev.neg c2 (Ev.ret _))) (if_neg (by omega)).symm
end Go.Proofs.Ytjbgnlhgjgnclaa.DistPure
end
section
namespace Go.Proofs.Ytjbgnlhgjgnclaa.DistPure
set_option linter.unusedVariables false
set_option linter.unusedSimpArgs false
open Go.RowKit Go.Proofs.Ytjbgnlhgjgnclaa.PB Go.Proofs.YtjbgnlhgjgnclaaW.PrintWords Go.Proofs.YtjbgnlhgjgnclaaW.PrintLast Go.Proofs.YtjbgnlhgjgnclaaW.PrintMore Go.Proofs.YtjbgnlhgjgnclaaW.EvKit
def Outs (l : List S64) (x : List Int) : Prop := ∃ p ∈ l, p.f0 = x ∧ 0 < p.f1
theorem wOf_ge : ∀ {l : List S64}, (∀ p ∈ l, 0 ≤ p.f1) → ∀ {p : S64}, p ∈ l → p.f1 ≤ wOf l p.f0
 | [], _, p, h => by cases h
 | q :: l, h0, p, h => by
  have h1 := h0 q (by simp)
  have h2 : ∀ p ∈ l, 0 ≤ p.f1 := fun x hx => h0 x (by simp [hx])
  rw [wOf_cons]
  rcases List.mem_cons.1 h with e | e
  ·
   subst e
   rw [if_pos rfl]
   have := (wOf_le h2 p.f0).1
   omega
  ·
   have := wOf_ge h2 e
   split <;> omega
theorem wOf_some : ∀ {l : List S64}, (∀ p ∈ l, 0 ≤ p.f1) → ∀ {o : List Int}, 0 < wOf l o → Outs l o
 | [], _, _, h => absurd h (Int.lt_irrefl 0)
 | q :: l, h0, o, h => by
  have h1 := h0 q (by simp)
  rw [wOf_cons] at h
  by_cases c : q.f0 = o ∧ 0 < q.f1
  ·
   exact ⟨q, by simp, c⟩
  ·
   have h2 : 0 < wOf l o := by
    by_cases e : q.f0 = o
    ·
     rw [if_pos e] at h
     have : ¬ 0 < q.f1 := fun x => c ⟨e, x⟩
     omega
    ·
     rw [if_neg e] at h; omega
   obtain ⟨p, hp, e⟩ := wOf_some (fun x hx => h0 x (by simp [hx])) h2
   exact ⟨p, by simp [hp], e⟩
theorem outs_iff {l D : List S64} (h : Canon l D) (h0 : ∀ p ∈ l, 0 ≤ p.f1) (x : List Int) : Outs l x ↔ ∃ q ∈ D, q.f0 = x := by
 have d0 : ∀ p ∈ D, 0 ≤ p.f1 := fun p hp => Int.le_of_lt (h.pos p hp)
 constructor
 ·
  rintro ⟨p, hp, e, hpos⟩
  have := wOf_ge h0 hp
  rw [e, ← h.w] at this
  exact wOf_mem (by omega)
 ·
  rintro ⟨q, hq, e⟩
  have := wOf_ge d0 hq
  have := h.pos q hq
  subst e
  exact wOf_some h0 (by rw [← h.w]; omega)
def Fit (l : List S64) (a : List Int) (b : Bool) (x : List Int) : Prop := Outs l x ∧ (b = true → cmpL x a > 0)
def Least (S : List Int → Prop) (o : List Int) (f : Bool) : Prop := (f = true → S o ∧ ∀ x, S x → cmpL o x ≤ 0) ∧ (f = false → ∀ x, ¬ S x)
theorem Least.new {S S' : List Int → Prop} {o v : List Int} (h : Least S o false) (hS : ∀ x, S' x ↔ S x ∨ x = v) : Least S' v true :=
 ⟨fun _ => ⟨(hS v).2 (.inr rfl), fun x hx => by
  rcases (hS x).1 hx with h1 | h1
  ·
   exact absurd h1 (h.2 rfl x)
  ·
   rw [h1, cmpL_self]; exact Int.le_refl 0⟩, fun c => by cases c⟩
theorem Least.lt {S S' : List Int → Prop} {o v : List Int} (h : Least S o true) (c : cmpL v o < 0) (hS : ∀ x, S' x ↔ S x ∨ x = v) : Least S' v true :=
 ⟨fun _ => ⟨(hS v).2 (.inr rfl), fun x hx => by
  rcases (hS x).1 hx with h1 | h1
  ·
   exact cmpL_le_trans _ _ _ (Int.le_of_lt c) ((h.1 rfl).2 x h1)
  ·
   rw [h1, cmpL_self]; exact Int.le_refl 0⟩, fun c => by cases c⟩
theorem Least.ge {S S' : List Int → Prop} {o v : List Int} (h : Least S o true) (c : ¬ cmpL v o < 0) (hS : ∀ x, S' x ↔ S x ∨ x = v) : Least S' o true :=
 ⟨fun _ => ⟨(hS o).2 (.inl (h.1 rfl).1), fun x hx => by
  rcases (hS x).1 hx with h1 | h1
  ·
   exact (h.1 rfl).2 x h1
  ·
   have := cmpL_swap o v
   rw [h1]; omega⟩, fun c => by cases c⟩
theorem Least.same {S S' : List Int → Prop} {o : List Int} {f : Bool} (h : Least S o f) (hS : ∀ x, S' x ↔ S x) : Least S' o f :=
 ⟨fun c => ⟨(hS o).2 (h.1 c).1, fun x hx => (h.1 c).2 x ((hS x).1 hx)⟩, fun c x hx => h.2 c x ((hS x).1 hx)⟩
theorem outs_app (l : List S64) (p : S64) (x : List Int) : Outs (l ++ [p]) x ↔ Outs l x ∨ (x = p.f0 ∧ 0 < p.f1) := by
 constructor
 ·
  rintro ⟨q, hq, e⟩
  rcases List.mem_append.1 hq with h | h
  ·
   exact .inl ⟨q, h, e⟩
  ·
   rw [List.mem_singleton.1 h] at e
   exact .inr ⟨e.1.symm, e.2⟩
 ·
  rintro (⟨q, hq, e⟩ | ⟨e, h⟩)
  ·
   exact ⟨q, by simp [hq], e⟩
  ·
   exact ⟨p, by simp, e.symm, h⟩
theorem fit_same {l : List S64} {a : List Int} {b : Bool} {p : S64} (c : 0 < p.f1 → b = true → ¬ cmpL p.f0 a > 0) (c2 : 0 < p.f1 → b = true) (x : List Int) : Fit (l ++ [p]) a b x ↔ Fit l a b x := by
 unfold Fit
 rw [outs_app]
 constructor
 ·
  rintro ⟨h | ⟨rfl, h⟩, k⟩
  ·
   exact ⟨h, k⟩
  ·
   exact absurd (k (c2 h)) (c h (c2 h))
 ·
  rintro ⟨h, k⟩
  exact ⟨.inl h, k⟩
theorem fit_new {l : List S64} {a : List Int} {b : Bool} {p : S64} (c : 0 < p.f1) (k : b = true → cmpL p.f0 a > 0) (x : List Int) : Fit (l ++ [p]) a b x ↔ Fit l a b x ∨ x = p.f0 := by
 unfold Fit
 rw [outs_app]
 constructor
 ·
  rintro ⟨h | ⟨rfl, h⟩, k⟩
  ·
   exact .inl ⟨h, k⟩
  ·
   exact .inr rfl
 ·
  rintro (⟨h, k⟩ | rfl)
  ·
   exact ⟨.inl h, k⟩
  ·
   exact ⟨.inr ⟨rfl, c⟩, k⟩
theorem take_one {l : List S64} {i : Nat} (h : i < l.length) : l.take (i + 1) = l.take i ++ [l[i]] := by
 rw [List.take_add_one, List.getElem?_eq_getElem h]; rfl
theorem least_loop (l : List S64) (a : List Int) (b : Bool) (hl : l.length ≤ 1048576) (h1 : ∀ p ∈ l, p.f0.length ≤ 1048576) (ha : a.length ≤ 1048576) : ∀ (n i : Nat) (o : List Int) (f : Bool), i + n = l.length → Least (Fit (l.take i) a b) o f →
  ∃ o' f', hushref2_least.L0 a b o f l (l.length : Int) (i : Int) = some (o', f') ∧ Least (Fit l a b) o' f' := by
 intro n
 induction n with
 | zero =>
  intro i o f hi h
  rw [List.take_of_length_le (show l.length ≤ i by omega)] at h
  exact ⟨o, f, by rw [hushref2_least.L0_eq, if_neg (by omega)], h⟩
 | succ n ih =>
  intro i o f hi h
  have hxi : i < l.length := by omega
  have hp := h1 _ (mem_at hxi)
  have e := take_one hxi
  have next : ∀ o f, Least (Fit (l.take i ++ [l[i]]) a b) o f → ∃ o' f', hushref2_least.L0 a b o f l (l.length : Int) (wrap64 ((i : Int) + 1)) = some (o', f') ∧ Least (Fit l a b) o' f' := fun o f h' => by
   rw [w1 (by omega)]
   exact ih (i + 1) o f (by omega) (by rw [e]; exact h')
  rw [hushref2_least.L0_eq, if_pos (by omega), if_pos (by omega), if_pos (by omega), rd32At hxi]
  by_cases c1 : l[i].f1 > 0
  ·
   rw [if_pos c1]
   have body : (b = true → cmpL l[i].f0 a > 0) → ∃ o' f', (if f = true then ((hushref2_Compare.F l[i].f0 o).bind fun t140 => (if t140 < 0 then (hushref2_least.L0 a b l[i].f0 true l (l.length : Int) (wrap64 ((i : Int) + 1))) else (hushref2_least.L0 a b o f l (l.length : Int) (wrap64 ((i : Int) + 1))))) else (hushref2_least.L0 a b l[i].f0 true l (l.length : Int) (wrap64 ((i : Int) + 1)))) = some (o', f') ∧ Least (Fit l a b) o' f' := by
    intro k
    have hn := fit_new (l := l.take i) c1 k
    cases f with
    | false =>
     rw [if_neg (by decide)]
     exact next _ _ (h.new hn)
    | true =>
     have ho : o.length ≤ 1048576 := by
      obtain ⟨q, hq, e, _⟩ := (h.1 rfl).1.1
      rw [← e]
      exact h1 q (List.mem_of_mem_take hq)
     rw [if_pos rfl, rcmpF _ _ hp ho, Option.bind_some]
     by_cases c2 : cmpL l[i].f0 o < 0
     ·
      rw [if_pos c2]
      exact next _ _ (h.lt c2 hn)
     ·
      rw [if_neg c2]
      exact next _ _ (h.ge c2 hn)
   cases b with
   | false =>
    rw [if_neg (by decide)]
    exact body (fun c => by cases c)
   | true =>
    rw [if_pos rfl, rcmpF _ _ hp ha, Option.bind_some]
    by_cases c2 : cmpL l[i].f0 a > 0
    ·
     rw [if_pos c2]
     exact body (fun _ => c2)
    ·
     rw [if_neg c2]
     exact next _ _ (h.same (fit_same (fun _ _ => c2) (fun _ => rfl)))
  ·
   rw [if_neg c1]
   exact next _ _ (h.same (fit_same (fun h => absurd h c1) (fun h => absurd h c1)))
theorem leastF (l : List S64) (a : List Int) (b : Bool) (hl : l.length ≤ 1048576) (h1 : ∀ p ∈ l, p.f0.length ≤ 1048576) (ha : a.length ≤ 1048576) : ∃ o f, hushref2_least.F l a b = some (o, f) ∧ Least (Fit l a b) o f := by
 rw [hushref2_least.F_eq]
 exact least_loop l a b hl h1 ha l.length 0 [] false (by omega) ⟨fun c => (by cases c), fun _ x hx => (by
  obtain ⟨⟨p, hp, _⟩, _⟩ := hx
  cases hp)⟩
def OutsOf (B : List S64) (x : List Int) : Prop := ∃ q ∈ B, q.f0 = x
theorem least_nil {o : List Int} {f : Bool} (h : Least (OutsOf []) o f) : f = false := by
 cases f with
 | false => rfl
 | true =>
  obtain ⟨q, hq, _⟩ := (h.1 rfl).1
  cases hq
theorem least_cons {q : S64} {B : List S64} {o : List Int} {f : Bool} (hs : Strict (q :: B)) (h : Least (OutsOf (q :: B)) o f) : f = true ∧ o = q.f0 := by
 cases f with
 | false => exact absurd ⟨q, by simp, rfl⟩ (h.2 rfl q.f0)
 | true =>
  refine ⟨rfl, ?_⟩
  obtain ⟨⟨r, hr, e⟩, h2⟩ := h.1 rfl
  have h3 := h2 q.f0 ⟨q, by simp, rfl⟩
  rcases List.mem_cons.1 hr with c | c
  ·
   rw [← e, c]
  ·
   have h4 := (List.pairwise_cons.1 hs).1 r c
   have := cmpL_swap q.f0 r.f0
   rw [e] at h4 this
   omega
theorem fit_first {l D : List S64} (h : Canon l D) (h0 : ∀ p ∈ l, 0 ≤ p.f1) (a x : List Int) : OutsOf D x ↔ Fit l a false x := by
 unfold Fit
 rw [outs_iff h h0]
 exact ⟨fun k => ⟨k, fun c => by cases c⟩, fun k => k.1⟩
theorem fit_next {l A B : List S64} {q : S64} (h : Canon l (A ++ q :: B)) (h0 : ∀ p ∈ l, 0 ≤ p.f1) (x : List Int) : OutsOf B x ↔ Fit l q.f0 true x := by
 unfold Fit
 rw [outs_iff h h0]
 have hs := List.pairwise_append.1 h.st
 constructor
 ·
  rintro ⟨r, hr, rfl⟩
  refine ⟨⟨r, by simp [hr], rfl⟩, fun _ => ?_⟩
  have h1 := (List.pairwise_cons.1 hs.2.1).1 r hr
  have := cmpL_swap q.f0 r.f0
  omega
 ·
  rintro ⟨⟨r, hr, rfl⟩, k⟩
  have k := k rfl
  rcases List.mem_append.1 hr with c | c
  ·
   have := hs.2.2 r c q (by simp)
   omega
  ·
   rcases List.mem_cons.1 c with c | c
   ·
    rw [c, cmpL_self] at k; omega
   ·
    exact ⟨r, c, rfl⟩
theorem l2_loop (g : Nat) (hg : 0 < g) : ∀ (B A : List S64), A.length + B.length ≤ 1048576 → (∀ p ∈ B, 0 ≤ p.f1 ∧ p.f1 ≤ 4611686018427387904) →
  hushref2_Tidy.L2 (A ++ B) (g : Int) ((A.length + B.length : Nat) : Int) (A.length : Int) = some (A ++ B.map (fun p => ⟨p.f0, p.f1 / (g : Int)⟩), 0)
 | [], A, hl, _ => by
  rw [hushref2_Tidy.L2_eq, if_neg (by simp)]
  rfl
 | q :: B, A, hl, h0 => by
  rw [List.length_cons] at hl
  have hxi : A.length < (A ++ q :: B).length := by rw [List.length_append, List.length_cons]; omega
  have hq := h0 q (by simp)
  rw [hushref2_Tidy.L2_eq, if_pos (by rw [List.length_cons]; omega), if_pos (by omega), if_pos (by omega), if_neg (by omega), rd32At hxi, w1 (by omega)]
  have e1 : (A ++ q :: B)[A.length] = q := by simp
  rw [e1, quot hq.1 (by omega), Int.toNat_natCast]
  have e2 : (A ++ q :: B).set A.length ⟨q.f0, q.f1 / (g : Int)⟩ = (A ++ [⟨q.f0, q.f1 / (g : Int)⟩]) ++ B := by simp
  rw [e2]
  have ih := l2_loop g hg B (A ++ [⟨q.f0, q.f1 / (g : Int)⟩]) (by rw [List.length_append, List.length_singleton]; omega) (fun p hp => h0 p (by simp [hp]))
  rw [List.length_append, List.length_singleton] at ih
  rw [show A.length + (q :: B).length = A.length + 1 + B.length by rw [List.length_cons]; omega, ih, List.map_cons, List.append_assoc]
  rfl
theorem g_loop (D : List S64) (hl : D.length ≤ 1048576) (h0 : ∀ p ∈ D, 0 < p.f1 ∧ p.f1 ≤ 4611686018427387904) : ∀ (n i g : Nat), i + n = D.length → 0 < g → g ≤ 4611686018427387904 →
  ∃ g', g' = (D.drop i).foldl (fun g p => Nat.gcd p.f1.toNat g) g ∧ 0 < g' ∧ hushref2_Tidy.L1 D (g : Int) D (D.length : Int) (i : Int) = hushref2_Tidy.L1 D (g' : Int) D (D.length : Int) (D.length : Int) := by
 intro n
 induction n with
 | zero =>
  intro i g hi hg _
  obtain rfl : i = D.length := by omega
  exact ⟨g, by rw [List.drop_length]; rfl, hg, rfl⟩
 | succ n ih =>
  intro i g hi hg hb
  have hxi : i < D.length := by omega
  have hm := h0 _ (mem_at hxi)
  obtain ⟨x, hx⟩ := Int.eq_ofNat_of_zero_le (Int.le_of_lt hm.1)
  have hgp : 0 < Nat.gcd x g := Nat.gcd_pos_of_pos_right _ hg
  have hgl : Nat.gcd x g ≤ g := Nat.gcd_le_right _ hg
  obtain ⟨g', e, p, r⟩ := ih (i + 1) (Nat.gcd x g) (by omega) hgp (by omega)
  refine ⟨g', ?_, p, ?_⟩
  ·
   rw [e, List.drop_eq_getElem_cons hxi, List.foldl_cons, hx, Int.toNat_natCast]
  ·
   rw [hushref2_Tidy.L1_eq, if_pos (by omega), if_pos (by omega), if_pos (by omega), rd32At hxi, divF (by omega) (by omega) (by omega) (by omega), Option.bind_some, hx, w1 (by omega)]
   exact r
theorem one_le {l : List S64} (h0 : ∀ p ∈ l, 0 ≤ p.f1) {p : S64} (h : p ∈ l) : p.f1 ≤ totOf l := by
 have h1 := wOf_ge h0 h
 have h2 := (wOf_le h0 p.f0).2
 omega
noncomputable def tidyEnd (D : List S64) : Option (List S64 × Int) := if (D.length : Int) = 0 then (some (([] : List (S64)), 6)) else (if 0 < (D.length : Int) then (hushref2_Tidy.L1 D ((rd_T64 D 0).f1) D (D.length : Int) 0) else (none))
theorem tidyEnd_is (D : List S64) (hl : D.length ≤ 1048576) (h0 : ∀ p ∈ D, 0 < p.f1) (ht : totOf D ≤ 4611686018427387904) : tidyEnd D = some (tDone D) := by
 have h0' : ∀ p ∈ D, 0 ≤ p.f1 := fun p hp => Int.le_of_lt (h0 p hp)
 have hb : ∀ p ∈ D, 0 < p.f1 ∧ p.f1 ≤ 4611686018427387904 := fun p hp => ⟨h0 p hp, Int.le_trans (one_le h0' hp) ht⟩
 have hT := rtotF D hl h0' ht
 have ht0 := tot_ge h0'
 unfold tidyEnd tDone
 cases D with
 | nil => rw [if_pos (by simp), if_pos rfl]
 | cons q D' =>
  have hq := hb q (by simp)
  obtain ⟨x, hx⟩ := Int.eq_ofNat_of_zero_le (Int.le_of_lt hq.1)
  rw [if_neg (by rw [List.length_cons]; omega), if_pos (by rw [List.length_cons]; omega), if_neg (by simp)]
  have e1 : (rd_T64 (q :: D') 0).f1 = (x : Int) := hx
  rw [e1]
  obtain ⟨g', e, hg, r⟩ := g_loop (q :: D') hl hb (q :: D').length 0 x (by omega) (by omega) (by omega)
  rw [show ((0 : Nat) : Int) = 0 from rfl] at r
  rw [r]
  have eg : g' = gOf (q :: D') := by
   rw [e]
   unfold gOf
   rw [List.drop_zero, List.foldl_cons, List.foldl_cons, hx, Int.toNat_natCast, Nat.gcd_self, Nat.gcd_zero_right]
  rw [← eg, hushref2_Tidy.L1_eq, if_neg (by omega), hT, Option.bind_some, if_neg (by omega), quot ht0 (by omega)]
  have hj : ∀ b : Bool, b = decide (totOf (q :: D') / (g' : Int) > 1073741824 ∨ (q :: D').length > 4096) → hushref2_Tidy.J2 (q :: D') (g' : Int) b = some (if totOf (q :: D') / (g' : Int) > 1073741824 ∨ (q :: D').length > 4096 then ([], 4) else ((q :: D').map (fun p => ⟨p.f0, p.f1 / (g' : Int)⟩), 0)) := by
   intro b hb'
   rw [hushref2_Tidy.J2_eq]
   subst hb'
   by_cases c : totOf (q :: D') / (g' : Int) > 1073741824 ∨ (q :: D').length > 4096
   ·
    rw [if_pos (decide_eq_true c), if_pos c]
   ·
    rw [if_neg (by simpa using c), if_neg c]
    have := l2_loop g' hg (q :: D') [] (by simpa using hl) (fun p hp => ⟨h0' p hp, (hb p hp).2⟩)
    simpa using this
  by_cases c1 : totOf (q :: D') / (g' : Int) > 1073741824
  ·
   rw [if_pos c1]
   exact hj true (by simp [c1])
  ·
   rw [if_neg c1]
   refine hj _ ?_
   rw [decide_eq_decide]
   constructor
   ·
    intro h; exact .inr (by omega)
   ·
    rintro (h | h)
    ·
     exact absurd h c1
    ·
     omega
theorem tidy_loop (l D : List S64) (hl : l.length ≤ 1048576) (h1 : ∀ p ∈ l, p.f0.length ≤ 1048576) (h0 : ∀ p ∈ l, 0 ≤ p.f1) (ht : totOf l ≤ 4611686018427387904) (hd : D.length ≤ 1048576) (h : Canon l D) : ∀ (B A : List S64) (o : List Int) (f : Bool), D = A ++ B → Least (OutsOf B) o f →
  hushref2_Tidy.L0 l A o f = tidyEnd D
 | [], A, o, f, e, hf => by
  rw [least_nil hf, hushref2_Tidy.L0_eq, if_neg (by decide), e, List.append_nil]
  rfl
 | q :: B, A, o, f, e, hf => by
  have hs : Strict (q :: B) := by have := h.st; rw [e] at this; exact (List.pairwise_append.1 this).2.1
  obtain ⟨rfl, rfl⟩ := least_cons hs hf
  have hq : q.f0.length ≤ 1048576 := by
   obtain ⟨p, hp, e', _⟩ := (outs_iff h h0 q.f0).2 ⟨q, by rw [e]; simp, rfl⟩
   rw [← e']; exact h1 p hp
  have hw : wOf l q.f0 = q.f1 := by
   have := h.w q.f0
   rw [e, wOf_app, wOf_cons, if_pos rfl, strict_head hs, wOf_none A q.f0 (fun r hr c => by
    have h3 := h.st
    rw [e] at h3
    have h4 := (List.pairwise_append.1 h3).2.2 r hr q (by simp)
    rw [c, cmpL_self] at h4
    omega)] at this
   omega
  obtain ⟨o', f', e1, e2⟩ := leastF l q.f0 true hl h1 hq
  rw [hushref2_Tidy.L0_eq, if_pos rfl, weightF l _ hq hl h1 h0 ht, Option.bind_some, if_pos (by rw [e, List.length_append] at hd; omega), e1, Option.bind_some, hw]
  exact tidy_loop l D hl h1 h0 ht hd h B (A ++ [q]) o' f' (by rw [e, List.append_assoc]; rfl) (e2.same (fun x => fit_next (A := A) (by rw [← e]; exact h) h0 x))
theorem tStep_len (d : List S64) (p : S64) : (tStep d p).length ≤ d.length + 1 := by
 unfold tStep
 split
 ·
  omega
 ·
  split
  ·
   split
   ·
    rw [List.length_append, List.length_dropLast, List.length_singleton]; omega
   ·
    rw [List.length_append, List.length_singleton]; omega
  ·
   rw [List.length_append, List.length_singleton]; omega
theorem tFold_len : ∀ (l d : List S64), (l.foldl tStep d).length ≤ d.length + l.length
 | [], d => by simp
 | p :: l, d => by
  have := tFold_len l (tStep d p)
  have := tStep_len d p
  rw [List.foldl_cons, List.length_cons]; omega
theorem tMerge_len (l : List S64) : (tMerge (sortP l)).length ≤ l.length := by
 have := tFold_len (sortP l) []
 rw [(sortP_perm l).length_eq, List.length_nil] at this
 unfold tMerge
 omega
theorem totOf_app : ∀ (a b : List S64), totOf (a ++ b) = totOf a + totOf b
 | [], b => by rw [totOf_nil]; exact (Int.zero_add _).symm
 | p :: a, b => by rw [List.cons_append, totOf_cons, totOf_cons, totOf_app a b]; omega
theorem totOf_perm {a b : List S64} (h : a.Perm b) : totOf a = totOf b := isum_perm (h.map _)
theorem tStep_tot (d : List S64) (p : S64) : totOf (tStep d p) = totOf d + p.f1 := by
 unfold tStep
 split
 ·
  omega
 ·
  split
  ·
   rename_i q hq
   obtain ⟨d0, e⟩ : ∃ d0, d = d0 ++ [q] := List.getLast?_eq_some_iff.1 hq
   subst e
   split
   ·
    rw [List.dropLast_concat, totOf_app, totOf_app, totOf_cons, totOf_cons, totOf_nil]
    show _ + (q.f1 + p.f1 + 0) = _
    omega
   ·
    rw [totOf_app _ [p], totOf_cons p, totOf_nil]; omega
  ·
   rw [totOf_app, totOf_cons, totOf_nil]; omega
theorem tFold_tot : ∀ (l d : List S64), totOf (l.foldl tStep d) = totOf d + totOf l
 | [], d => by rw [totOf_nil]; exact (Int.add_zero _).symm
 | p :: l, d => by rw [List.foldl_cons, tFold_tot, tStep_tot, totOf_cons]; omega
theorem tMerge_tot (l : List S64) : totOf (tMerge (sortP l)) = totOf l := by
 unfold tMerge
 rw [tFold_tot, totOf_perm (sortP_perm l), totOf_nil]; omega
theorem rtidyF (l : List S64) (hl : l.length ≤ 1048576) (h1 : ∀ p ∈ l, p.f0.length ≤ 1048576) (h0 : ∀ p ∈ l, 0 ≤ p.f1) (ht : totOf l ≤ 4611686018427387904) : hushref2_Tidy.F l = some (tDone (tMerge (sortP l))) := by
 have hc := tidy_canon h0
 obtain ⟨o, f, e1, e2⟩ := leastF l [] false hl h1 (by simp)
 have hlen := tMerge_len l
 rw [hushref2_Tidy.F_eq, e1, Option.bind_some, tidy_loop l _ hl h1 h0 ht (by omega) hc _ [] o f rfl (e2.same (fit_first hc h0 []))]
 exact tidyEnd_is _ (by omega) hc.pos (by rw [tMerge_tot]; exact ht)
end Go.Proofs.Ytjbgnlhgjgnclaa.DistPure
end
section
namespace Go.Proofs.Ytjbgnlhgjgnclaa.DistPure
set_option linter.unusedVariables false
set_option linter.unusedSimpArgs false
open Go.RowKit Go.Proofs.Ytjbgnlhgjgnclaa.PB Go.Proofs.YtjbgnlhgjgnclaaW.PrintWords Go.Proofs.YtjbgnlhgjgnclaaW.PrintLast Go.Proofs.YtjbgnlhgjgnclaaW.PrintMore Go.Proofs.YtjbgnlhgjgnclaaW.EvKit
instance : DecidableEq S64 := fun p q => decidable_of_iff (p.f1 = q.f1 ∧ p.f0 = q.f0) (by cases p; cases q; simp only [S64.mk.injEq]; exact And.comm)
structure Bd (l : List S64) : Prop where
 len : l.length ≤ 1048576
 out : ∀ p ∈ l, p.f0.length ≤ 1048576
def okP (p : S64) : Bool := smallB p.f0 && (decide (0 ≤ p.f1) && decide (p.f1 ≤ 1073741824))
theorem okP_iff {p : S64} : okP p = true ↔ smallB p.f0 = true ∧ 0 ≤ p.f1 ∧ p.f1 ≤ 1073741824 := by simp [okP]
def makeP (l : List S64) : List S64 × Int := if l.all okP = true then tDone (tMerge (sortP l)) else ([], 3)
theorem all_ok {l : List S64} (h : l.all okP = true) : ∀ p ∈ l, 0 ≤ p.f1 ∧ p.f1 ≤ 1073741824 := fun p hp => (okP_iff.1 (List.all_eq_true.1 h p hp)).2
theorem all_tot {l : List S64} (h : l.all okP = true) (hl : l.length ≤ 1048576) : totOf l ≤ 4611686018427387904 := by
 have := tot_bd (all_ok h)
 omega
theorem tidyF (l : List S64) (hl : l.length ≤ 1048576) (h : l.all okP = true) : dist_tidy.F l = some (tDone (tMerge (sortP l))) := by
 rw [dist_tidy.F_eq, if_pos]
 unfold tGuard
 have := all_tot h hl
 simp only [Bool.and_eq_true, decide_eq_true_eq, List.all_eq_true]
 exact ⟨⟨by omega, fun p hp => (all_ok h p hp).1⟩, this⟩
theorem cloneF (o : List Int) (h : o.length ≤ 1048576) : slices_Clone_int_int.f o = some o := by
 unfold slices_Clone_int_int.f
 rw [if_pos (by omega)]
theorem make_loop (l : List S64) (h : Bd l) : ∀ (n i : Nat), i + n = l.length → (l.take i).all okP = true →
  dist_Make.L0 (l.take i) l (l.length : Int) (i : Int) = some (if (l.drop i).all okP = true then tDone (tMerge (sortP l)) else ([], 3)) := by
 have hl := h.len
 intro n
 induction n with
 | zero =>
  intro i hi ha
  rw [List.take_of_length_le (show l.length ≤ i by omega)] at ha ⊢
  rw [dist_Make.L0_eq, if_neg (by omega), tidyF l h.len ha, Option.bind_some, List.drop_of_length_le (show l.length ≤ i by omega)]
  rfl
 | succ n ih =>
  intro i hi ha
  have hxi : i < l.length := by omega
  have ho := h.out _ (mem_at hxi)
  rw [dist_Make.L0_eq, if_pos (by omega), if_pos (by omega), if_pos (by omega), rd32At hxi, smallF _ ho, Option.bind_some, List.drop_eq_getElem_cons hxi, List.all_cons]
  have e : okP l[i] = (smallB l[i].f0 && (decide (0 ≤ l[i].f1) && decide (l[i].f1 ≤ 1073741824))) := rfl
  cases c : smallB l[i].f0 with
  | false =>
   rw [if_neg (by decide), e, c]
   rfl
  | true =>
   rw [if_pos rfl]
   by_cases c1 : l[i].f1 < 0
   ·
    rw [if_pos c1, if_neg]
    rw [e, decide_eq_false (show ¬ 0 ≤ l[i].f1 by omega)]
    simp
   ·
    rw [if_neg c1]
    by_cases c2 : l[i].f1 > 1073741824
    ·
     rw [if_pos c2, if_neg]
     rw [e, decide_eq_false (show ¬ l[i].f1 ≤ 1073741824 by omega)]
     simp
    ·
     have hok : okP l[i] = true := okP_iff.2 ⟨c, by omega, by omega⟩
     rw [if_neg c2, cloneF _ ho, Option.bind_some, if_pos (by rw [List.length_take]; omega), hok, Bool.true_and, w1 (by omega)]
     have e2 : l.take i ++ [(⟨l[i].f0, l[i].f1⟩ : S64)] = l.take (i + 1) := (take_one hxi).symm
     rw [e2]
     exact ih (i + 1) (by omega) (by rw [take_one hxi, List.all_append, ha]; simp [hok])
theorem makeF1 (l : List S64) (h : Bd l) : dist_Make.F l = some (makeP l) := by
 rw [dist_Make.F_eq]
 exact make_loop l h l.length 0 (by omega) (by simp)
theorem rmake_loop (l : List S64) (h : Bd l) : ∀ (n i : Nat), i + n = l.length → (l.take i).all okP = true →
  hushref2_Make.L0 l l (l.length : Int) (i : Int) = some (if (l.drop i).all okP = true then tDone (tMerge (sortP l)) else ([], 3)) := by
 have hl := h.len
 intro n
 induction n with
 | zero =>
  intro i hi ha
  rw [List.take_of_length_le (show l.length ≤ i by omega)] at ha
  rw [hushref2_Make.L0_eq, if_neg (by omega), rtidyF l h.len h.out (fun p hp => (all_ok ha p hp).1) (all_tot ha h.len), Option.bind_some, List.drop_of_length_le (show l.length ≤ i by omega)]
  rfl
 | succ n ih =>
  intro i hi ha
  have hxi : i < l.length := by omega
  have ho := h.out _ (mem_at hxi)
  rw [hushref2_Make.L0_eq, if_pos (by omega), if_pos (by omega), if_pos (by omega), rd32At hxi, rsmallF _ ho, Option.bind_some, List.drop_eq_getElem_cons hxi, List.all_cons]
  have e : okP l[i] = (smallB l[i].f0 && (decide (0 ≤ l[i].f1) && decide (l[i].f1 ≤ 1073741824))) := rfl
  cases c : smallB l[i].f0 with
  | false =>
   rw [if_neg (by decide), e, c]
   rfl
  | true =>
   rw [if_pos rfl]
   by_cases c1 : l[i].f1 < 0
   ·
    rw [if_pos c1, if_neg]
    rw [e, decide_eq_false (show ¬ 0 ≤ l[i].f1 by omega)]
    simp
   ·
    rw [if_neg c1]
    by_cases c2 : l[i].f1 > 1073741824
    ·
     rw [if_pos c2, if_neg]
     rw [e, decide_eq_false (show ¬ l[i].f1 ≤ 1073741824 by omega)]
     simp
    ·
     have hok : okP l[i] = true := okP_iff.2 ⟨c, by omega, by omega⟩
     rw [if_neg c2, hok, Bool.true_and, w1 (by omega)]
     exact ih (i + 1) (by omega) (by rw [take_one hxi, List.all_append, ha]; simp [hok])
theorem rmakeF1 (l : List S64) (h : Bd l) : hushref2_Make.F l = some (makeP l) := by
 rw [hushref2_Make.F_eq]
 exact rmake_loop l h l.length 0 (by omega) (by simp)
theorem tDone_bd {D : List S64} (h : Bd D) : Bd (tDone D).1 := by
 unfold tDone
 split
 ·
  exact ⟨by simp, by simp⟩
 ·
  split
  ·
   exact ⟨by simp, by simp⟩
  ·
   refine ⟨by simpa using h.len, fun p hp => ?_⟩
   obtain ⟨q, hq, rfl⟩ := List.mem_map.1 hp
   exact h.out q hq
theorem makeP_bd {l : List S64} (h : Bd l) : Bd (makeP l).1 := by
 unfold makeP
 split
 ·
  rename_i c
  have h0 : ∀ p ∈ l, 0 ≤ p.f1 := fun p hp => (all_ok c p hp).1
  refine tDone_bd ⟨?_, fun q hq => ?_⟩
  ·
   have := tMerge_len l
   have := h.len
   omega
  ·
   obtain ⟨p, hp, e, _⟩ := (outs_iff (tidy_canon h0) h0 q.f0).2 ⟨q, hq, rfl⟩
   rw [← e]
   exact h.out p hp
 ·
  exact ⟨by simp, by simp⟩
theorem s32_eq {p q : S64} : p = q ↔ p.f1 = q.f1 ∧ p.f0 = q.f0 := by
 cases p; cases q
 simp only [S64.mk.injEq]
 exact And.comm
theorem rsame_loop (a b : List S64) (ha : Bd a) (hb : Bd b) (hl : a.length = b.length) : ∀ (n i : Nat), i + n = a.length →
  hushref2_Same.L0 a b (a.length : Int) (i : Int) = some (decide (a.drop i = b.drop i)) := by
 have hla := ha.len
 intro n
 induction n with
 | zero =>
  intro i hi
  rw [hushref2_Same.L0_eq, if_neg (by omega), List.drop_of_length_le (show a.length ≤ i by omega), List.drop_of_length_le (show b.length ≤ i by omega)]
  rfl
 | succ n ih =>
  intro i hi
  have h1 : i < a.length := by omega
  have h2 : i < b.length := by omega
  rw [hushref2_Same.L0_eq, if_pos (by omega), if_pos (by omega), if_pos (by omega), if_pos (by omega), rd32At h1, rd32At h2, List.drop_eq_getElem_cons h1, List.drop_eq_getElem_cons h2]
  by_cases c1 : a[i].f1 = b[i].f1
  ·
   rw [if_pos c1, rcmpF _ _ (ha.out _ (mem_at h1)) (hb.out _ (mem_at h2)), Option.bind_some]
   by_cases c2 : a[i].f0 = b[i].f0
   ·
    rw [if_pos (cmpL0.2 c2), w1 (by omega), ih (i + 1) (by omega), show a[i] = b[i] from s32_eq.2 ⟨c1, c2⟩]
    congr 1
    rw [decide_eq_decide]
    exact ⟨fun h => by rw [h], fun h => by injection h⟩
   ·
    rw [if_neg (fun h => c2 (cmpL0.1 h))]
    congr 1
    symm
    rw [decide_eq_false_iff_not]
    intro h
    injection h with h _
    exact c2 (by rw [h])
  ·
   rw [if_neg c1]
   congr 1
   symm
   rw [decide_eq_false_iff_not]
   intro h
   injection h with h _
   exact c1 (by rw [h])
theorem rsameF (a b : List S64) (ha : Bd a) (hb : Bd b) : hushref2_Same.F a b = some (decide (a = b)) := by
 rw [hushref2_Same.F_eq]
 by_cases h : a.length = b.length
 ·
  rw [if_pos (by omega)]
  exact rsame_loop a b ha hb h a.length 0 (by omega)
 ·
  rw [if_neg (by omega)]
  congr 1
  symm
  rw [decide_eq_false_iff_not]
  intro e
  exact h (by rw [e])
structure Right (d : List S64) : Prop where
 ok : d.all okP = true
 st : Strict d
 pos : 0 < totOf d
 few : totOf d ≤ 1073741824
 much : d.length ≤ 4096
end Go.Proofs.Ytjbgnlhgjgnclaa.DistPure
end
section
namespace Go.Proofs.Ytjbgnlhgjgnclaa.PB
set_option maxRecDepth 100000
open Go.RowKit Go.Proofs.YtjbgnlhgjgnclaaW.PrintWords Go.Proofs.YtjbgnlhgjgnclaaW.PrintLast Go.Proofs.YtjbgnlhgjgnclaaW.PrintMore
open Go.Proofs.YtjbgnlhgjgnclaaW.EvKit
set_option linter.unusedVariables false
noncomputable def ratio_Make.J0 (x0 : Int) (x1 : Int) (x13 : Bool) : Option (Int × Int × Int) := lim (fun k => ratio_Make.j0 k x0 x1 x13)
theorem ratio_Make.J0_is (x0 : Int) (x1 : Int) (x13 : Bool) : LimIs (fun k => ratio_Make.j0 k x0 x1 x13) (ratio_Make.J0 x0 x1 x13) := ⟨fun k => (ratio_Make.mono_l k) x0 x1 x13, rfl⟩
noncomputable def ratio_Make.F (a0 : Int) (a1 : Int) : Option (Int × Int × Int) := lim (fun k => ratio_Make.f k a0 a1)
theorem ratio_Make.F_is (a0 : Int) (a1 : Int) : LimIs (fun k => ratio_Make.f k a0 a1) (ratio_Make.F a0 a1) := ⟨fun k => ratio_Make.mono a0 a1 k, rfl⟩
theorem ratio_Make.J0_eq (x0 : Int) (x1 : Int) (x13 : Bool) : ratio_Make.J0 x0 x1 x13 = if x13 = true then (some (0, 0, 3)) else ((ratio_gcd.F x0 x1).bind fun t281 => (if t281 = 0 then (none) else (if (wrap64 (Int.tdiv x0 t281)) > 1073741824 then (some (0, 0, 4)) else (if (wrap64 (Int.tdiv x1 t281)) > 1073741824 then (some (0, 0, 4)) else (some (wrap64 (Int.tdiv x0 t281), wrap64 (Int.tdiv x1 t281), 0)))))) := by
 refine LimIs.step' (ratio_Make.J0_is x0 x1 x13).1 (b := fun k => if x13 = true then (some (0, 0, 3)) else ((ratio_gcd.f k x0 x1).bind fun t281 => (if t281 = 0 then (none) else (if (wrap64 (Int.tdiv x0 t281)) > 1073741824 then (some (0, 0, 4)) else (if (wrap64 (Int.tdiv x1 t281)) > 1073741824 then (some (0, 0, 4)) else (some (wrap64 (Int.tdiv x0 t281), wrap64 (Int.tdiv x1 t281), 0))))))) (fun k => by rfl) ?_
 repeat' first
  | (with_reducible exact ratio_gcd.F_is _ _)
  | (with_reducible exact LimIs.const _)
  | (with_reducible refine LimIs.ite ?_ ?_)
  | (with_reducible refine LimIs.bind ?_ (fun _ => ?_))
theorem ratio_Make.F_eq (a0 : Int) (a1 : Int) : ratio_Make.F a0 a1 = if a0 < 0 then (ratio_Make.J0 a0 a1 true) else (ratio_Make.J0 a0 a1 (decide (a1 < 1))) := by
 refine LimIs.out (?_ : LimIs (fun k => if a0 < 0 then (ratio_Make.j0 k a0 a1 true) else (ratio_Make.j0 k a0 a1 (decide (a1 < 1)))) _)
 repeat' first
  | (with_reducible exact ratio_Make.J0_is _ _ _)
  | (with_reducible refine LimIs.ite ?_ ?_)
end Go.Proofs.Ytjbgnlhgjgnclaa.PB
end
section
namespace Go.Proofs.Ytjbgnlhgjgnclaa.PB
set_option maxRecDepth 100000
open Go.RowKit Go.Proofs.YtjbgnlhgjgnclaaW.PrintWords Go.Proofs.YtjbgnlhgjgnclaaW.PrintLast Go.Proofs.YtjbgnlhgjgnclaaW.PrintMore
open Go.Proofs.YtjbgnlhgjgnclaaW.EvKit
set_option linter.unusedVariables false
noncomputable def ratio_Power.J0 (x1 : Int) (x17 : Bool) (x284000 : Int) (x284001 : Int) : Option (Int × Int × Int) := lim (fun k => ratio_Power.j0 k x1 x17 x284000 x284001)
theorem ratio_Power.J0_is (x1 : Int) (x17 : Bool) (x284000 : Int) (x284001 : Int) : LimIs (fun k => ratio_Power.j0 k x1 x17 x284000 x284001) (ratio_Power.J0 x1 x17 x284000 x284001) := ⟨fun k => (ratio_Power.mono_l k).1 x1 x17 x284000 x284001, rfl⟩
noncomputable def ratio_Power.L0 (x20 : Int) (x21 : Int) (x284000 : Int) (x284001 : Int) (x287000 : Int) (x287001 : Int) : Option (Int × Int × Int) := lim (fun k => ratio_Power.l0 k x20 x21 x284000 x284001 x287000 x287001)
theorem ratio_Power.L0_is (x20 : Int) (x21 : Int) (x284000 : Int) (x284001 : Int) (x287000 : Int) (x287001 : Int) : LimIs (fun k => ratio_Power.l0 k x20 x21 x284000 x284001 x287000 x287001) (ratio_Power.L0 x20 x21 x284000 x284001 x287000 x287001) := ⟨fun k => (ratio_Power.mono_l k).2 x20 x21 x284000 x284001 x287000 x287001, rfl⟩
noncomputable def ratio_Times.F (a0 : Int) (a1 : Int) (b0 : Int) (b1 : Int) : Option (Int × Int × Int) := lim (fun k => ratio_Times.f k a0 a1 b0 b1)
theorem ratio_Times.F_is (a0 : Int) (a1 : Int) (b0 : Int) (b1 : Int) : LimIs (fun k => ratio_Times.f k a0 a1 b0 b1) (ratio_Times.F a0 a1 b0 b1) := ⟨fun k => ratio_Times.mono a0 a1 b0 b1 k, rfl⟩
noncomputable def ratio_Power.F (a0_0 : Int) (a0_1 : Int) (a1 : Int) : Option (Int × Int × Int) := lim (fun k => ratio_Power.f k a0_0 a0_1 a1)
theorem ratio_Power.F_is (a0_0 : Int) (a0_1 : Int) (a1 : Int) : LimIs (fun k => ratio_Power.f k a0_0 a0_1 a1) (ratio_Power.F a0_0 a0_1 a1) := ⟨fun k => ratio_Power.mono a0_0 a0_1 a1 k, rfl⟩
noncomputable def noise_Lost.F (a0_0 : Int) (a0_1 : Int) (a1 : Int) : Option (Int × Int × Int) := lim (fun k => noise_Lost.f k a0_0 a0_1 a1)
theorem noise_Lost.F_is (a0_0 : Int) (a0_1 : Int) (a1 : Int) : LimIs (fun k => noise_Lost.f k a0_0 a0_1 a1) (noise_Lost.F a0_0 a0_1 a1) := ⟨fun k => noise_Lost.mono a0_0 a0_1 a1 k, rfl⟩
theorem ratio_Power.J0_eq (x1 : Int) (x17 : Bool) (x284000 : Int) (x284001 : Int) : ratio_Power.J0 x1 x17 x284000 x284001 = if x17 = true then (some (0, 0, 3)) else (ratio_Power.L0 x1 0 x284000 x284001 1 1) := by
 refine LimIs.step' (ratio_Power.J0_is x1 x17 x284000 x284001).1 (b := fun k => if x17 = true then (some (0, 0, 3)) else (ratio_Power.l0 k x1 0 x284000 x284001 1 1)) (fun k => by rfl) ?_
 repeat' first
  | (with_reducible exact ratio_Power.L0_is _ _ _ _ _ _)
  | (with_reducible exact LimIs.const _)
  | (with_reducible refine LimIs.ite ?_ ?_)
theorem ratio_Power.L0_eq (x20 : Int) (x21 : Int) (x284000 : Int) (x284001 : Int) (x287000 : Int) (x287001 : Int) : ratio_Power.L0 x20 x21 x284000 x284001 x287000 x287001 = if x21 < x20 then ((ratio_Times.F x287000 x287001 x284000 x284001).bind fun bt287 => (if bt287.2.2 = 0 then (ratio_Power.L0 x20 (wrap64 (x21 + 1)) x284000 x284001 bt287.1 bt287.2.1) else (some (0, 0, bt287.2.2)))) else (some (x287000, x287001, 0)) := by
 refine LimIs.step' (ratio_Power.L0_is x20 x21 x284000 x284001 x287000 x287001).1 (b := fun k => if x21 < x20 then ((ratio_Times.f k x287000 x287001 x284000 x284001).bind fun bt287 => (if bt287.2.2 = 0 then (ratio_Power.l0 k x20 (wrap64 (x21 + 1)) x284000 x284001 bt287.1 bt287.2.1) else (some (0, 0, bt287.2.2)))) else (some (x287000, x287001, 0))) (fun k => by rfl) ?_
 repeat' first
  | (with_reducible exact ratio_Times.F_is _ _ _ _)
  | (with_reducible exact ratio_Power.L0_is _ _ _ _ _ _)
  | (with_reducible exact LimIs.const _)
  | (with_reducible refine LimIs.ite ?_ ?_)
  | (with_reducible refine LimIs.bind ?_ (fun _ => ?_))
theorem ratio_Times.F_eq (a0 : Int) (a1 : Int) (b0 : Int) (b1 : Int) : ratio_Times.F a0 a1 b0 b1 = (ratio_Right.F a0 a1).bind fun t => (if t = true then ((ratio_Right.F b0 b1).bind fun u => (if u = true then (ratio_Make.F (wrap64 (a0 * b0)) (wrap64 (a1 * b1))) else (some (0, 0, 2)))) else (some (0, 0, 2))) := by
 refine LimIs.out (?_ : LimIs (fun k => (ratio_Right.f k a0 a1).bind fun t => (if t = true then ((ratio_Right.f k b0 b1).bind fun u => (if u = true then (ratio_Make.f k (wrap64 (a0 * b0)) (wrap64 (a1 * b1))) else (some (0, 0, 2)))) else (some (0, 0, 2)))) _)
 repeat' first
  | (with_reducible exact ratio_Right.F_is _ _)
  | (with_reducible exact ratio_Make.F_is _ _)
  | (with_reducible exact LimIs.const _)
  | (with_reducible refine LimIs.ite ?_ ?_)
  | (with_reducible refine LimIs.bind ?_ (fun _ => ?_))
theorem ratio_Power.F_eq (a0_0 : Int) (a0_1 : Int) (a1 : Int) : ratio_Power.F a0_0 a0_1 a1 = (ratio_Right.F a0_0 a0_1).bind fun t285 => (if t285 = true then (if a1 < 0 then (ratio_Power.J0 a1 true a0_0 a0_1) else (ratio_Power.J0 a1 (decide (a1 > 4096)) a0_0 a0_1)) else (some (0, 0, 2))) := by
 refine LimIs.out (?_ : LimIs (fun k => (ratio_Right.f k a0_0 a0_1).bind fun t285 => (if t285 = true then (if a1 < 0 then (ratio_Power.j0 k a1 true a0_0 a0_1) else (ratio_Power.j0 k a1 (decide (a1 > 4096)) a0_0 a0_1)) else (some (0, 0, 2)))) _)
 repeat' first
  | (with_reducible exact ratio_Right.F_is _ _)
  | (with_reducible exact ratio_Power.J0_is _ _ _ _)
  | (with_reducible exact LimIs.const _)
  | (with_reducible refine LimIs.ite ?_ ?_)
  | (with_reducible refine LimIs.bind ?_ (fun _ => ?_))
theorem noise_Lost.F_eq (a0_0 : Int) (a0_1 : Int) (a1 : Int) : noise_Lost.F a0_0 a0_1 a1 = (noise_loss.F a0_0 a0_1).bind fun t292 => (if t292 = 0 then ((ratio_Power.F a0_0 a0_1 a1).bind fun bt293 => (some (bt293.1, bt293.2.1, bt293.2.2))) else (some (0, 0, t292))) := by
 refine LimIs.out (?_ : LimIs (fun k => (noise_loss.f k a0_0 a0_1).bind fun t292 => (if t292 = 0 then ((ratio_Power.f k a0_0 a0_1 a1).bind fun bt293 => (some (bt293.1, bt293.2.1, bt293.2.2))) else (some (0, 0, t292)))) _)
 repeat' first
  | (with_reducible exact noise_loss.F_is _ _)
  | (with_reducible exact ratio_Power.F_is _ _ _)
  | (with_reducible exact LimIs.const _)
  | (with_reducible refine LimIs.ite ?_ ?_)
  | (with_reducible refine LimIs.bind ?_ (fun _ => ?_))
end Go.Proofs.Ytjbgnlhgjgnclaa.PB
end
section
namespace Go.Proofs.Ytjbgnlhgjgnclaa.PB
set_option maxRecDepth 100000
open Go.RowKit Go.Proofs.YtjbgnlhgjgnclaaW.PrintWords Go.Proofs.YtjbgnlhgjgnclaaW.PrintLast Go.Proofs.YtjbgnlhgjgnclaaW.PrintMore
open Go.Proofs.YtjbgnlhgjgnclaaW.EvKit
set_option linter.unusedVariables false
noncomputable def hushref1_Power.J0 (x1 : Int) (x18 : Bool) (x297000 : Int) (x297001 : Int) : Option (Int × Int × Int) := lim (fun k => hushref1_Power.j0 k x1 x18 x297000 x297001)
theorem hushref1_Power.J0_is (x1 : Int) (x18 : Bool) (x297000 : Int) (x297001 : Int) : LimIs (fun k => hushref1_Power.j0 k x1 x18 x297000 x297001) (hushref1_Power.J0 x1 x18 x297000 x297001) := ⟨fun k => (hushref1_Power.mono_l k).1 x1 x18 x297000 x297001, rfl⟩
noncomputable def hushref1_Power.L0 (x1 : Int) (x6 : Int) (x7 : Int) (x8 : Int) (x297000 : Int) (x297001 : Int) : Option (Int × Int × Int) := lim (fun k => hushref1_Power.l0 k x1 x6 x7 x8 x297000 x297001)
theorem hushref1_Power.L0_is (x1 : Int) (x6 : Int) (x7 : Int) (x8 : Int) (x297000 : Int) (x297001 : Int) : LimIs (fun k => hushref1_Power.l0 k x1 x6 x7 x8 x297000 x297001) (hushref1_Power.L0 x1 x6 x7 x8 x297000 x297001) := ⟨fun k => (hushref1_Power.mono_l k).2 x1 x6 x7 x8 x297000 x297001, rfl⟩
noncomputable def hushref1_Power.F (a0_0 : Int) (a0_1 : Int) (a1 : Int) : Option (Int × Int × Int) := lim (fun k => hushref1_Power.f k a0_0 a0_1 a1)
theorem hushref1_Power.F_is (a0_0 : Int) (a0_1 : Int) (a1 : Int) : LimIs (fun k => hushref1_Power.f k a0_0 a0_1 a1) (hushref1_Power.F a0_0 a0_1 a1) := ⟨fun k => hushref1_Power.mono a0_0 a0_1 a1 k, rfl⟩
noncomputable def hushref6_Lost.F (a0_0 : Int) (a0_1 : Int) (a1 : Int) : Option (Int × Int × Int) := lim (fun k => hushref6_Lost.f k a0_0 a0_1 a1)
theorem hushref6_Lost.F_is (a0_0 : Int) (a0_1 : Int) (a1 : Int) : LimIs (fun k => hushref6_Lost.f k a0_0 a0_1 a1) (hushref6_Lost.F a0_0 a0_1 a1) := ⟨fun k => hushref6_Lost.mono a0_0 a0_1 a1 k, rfl⟩
theorem hushref1_Power.J0_eq (x1 : Int) (x18 : Bool) (x297000 : Int) (x297001 : Int) : hushref1_Power.J0 x1 x18 x297000 x297001 = if x18 = true then (some (0, 0, 3)) else (hushref1_Power.L0 x1 1 1 0 x297000 x297001) := by
 refine LimIs.step' (hushref1_Power.J0_is x1 x18 x297000 x297001).1 (b := fun k => if x18 = true then (some (0, 0, 3)) else (hushref1_Power.l0 k x1 1 1 0 x297000 x297001)) (fun k => by rfl) ?_
 repeat' first
  | (with_reducible exact hushref1_Power.L0_is _ _ _ _ _ _)
  | (with_reducible exact LimIs.const _)
  | (with_reducible refine LimIs.ite ?_ ?_)
theorem hushref1_Power.L0_eq (x1 : Int) (x6 : Int) (x7 : Int) (x8 : Int) (x297000 : Int) (x297001 : Int) : hushref1_Power.L0 x1 x6 x7 x8 x297000 x297001 = if x8 < x1 then (if (wrap64 (x6 * x297000)) > 1073741824 then (some (0, 0, 4)) else (if (wrap64 (x7 * x297001)) > 1073741824 then (some (0, 0, 4)) else (hushref1_Power.L0 x1 (wrap64 (x6 * x297000)) (wrap64 (x7 * x297001)) (wrap64 (x8 + 1)) x297000 x297001))) else (if x6 = 0 then (some (x6, 1, 0)) else (some (x6, x7, 0))) := by
 refine LimIs.step' (hushref1_Power.L0_is x1 x6 x7 x8 x297000 x297001).1 (b := fun k => if x8 < x1 then (if (wrap64 (x6 * x297000)) > 1073741824 then (some (0, 0, 4)) else (if (wrap64 (x7 * x297001)) > 1073741824 then (some (0, 0, 4)) else (hushref1_Power.l0 k x1 (wrap64 (x6 * x297000)) (wrap64 (x7 * x297001)) (wrap64 (x8 + 1)) x297000 x297001))) else (if x6 = 0 then (some (x6, 1, 0)) else (some (x6, x7, 0)))) (fun k => by rfl) ?_
 repeat' first
  | (with_reducible exact hushref1_Power.L0_is _ _ _ _ _ _)
  | (with_reducible exact LimIs.const _)
  | (with_reducible refine LimIs.ite ?_ ?_)
theorem hushref1_Power.F_eq (a0_0 : Int) (a0_1 : Int) (a1 : Int) : hushref1_Power.F a0_0 a0_1 a1 = (hushref1_Right.F a0_0 a0_1).bind fun t298 => (if t298 = true then (if a1 < 0 then (hushref1_Power.J0 a1 true a0_0 a0_1) else (hushref1_Power.J0 a1 (decide (a1 > 4096)) a0_0 a0_1)) else (some (0, 0, 2))) := by
 refine LimIs.out (?_ : LimIs (fun k => (hushref1_Right.f k a0_0 a0_1).bind fun t298 => (if t298 = true then (if a1 < 0 then (hushref1_Power.j0 k a1 true a0_0 a0_1) else (hushref1_Power.j0 k a1 (decide (a1 > 4096)) a0_0 a0_1)) else (some (0, 0, 2)))) _)
 repeat' first
  | (with_reducible exact hushref1_Right.F_is _ _)
  | (with_reducible exact hushref1_Power.J0_is _ _ _ _)
  | (with_reducible exact LimIs.const _)
  | (with_reducible refine LimIs.ite ?_ ?_)
  | (with_reducible refine LimIs.bind ?_ (fun _ => ?_))
theorem hushref6_Lost.F_eq (a0_0 : Int) (a0_1 : Int) (a1 : Int) : hushref6_Lost.F a0_0 a0_1 a1 = (hushref6_Loss.F a0_0 a0_1).bind fun t301 => (if t301 = 0 then ((hushref1_Power.F a0_0 a0_1 a1).bind fun bt302 => (some (bt302.1, bt302.2.1, bt302.2.2))) else (some (0, 0, t301))) := by
 refine LimIs.out (?_ : LimIs (fun k => (hushref6_Loss.f k a0_0 a0_1).bind fun t301 => (if t301 = 0 then ((hushref1_Power.f k a0_0 a0_1 a1).bind fun bt302 => (some (bt302.1, bt302.2.1, bt302.2.2))) else (some (0, 0, t301)))) _)
 repeat' first
  | (with_reducible exact hushref6_Loss.F_is _ _)
  | (with_reducible exact hushref1_Power.F_is _ _ _)
  | (with_reducible exact LimIs.const _)
  | (with_reducible refine LimIs.ite ?_ ?_)
  | (with_reducible refine LimIs.bind ?_ (fun _ => ?_))
end Go.Proofs.Ytjbgnlhgjgnclaa.PB
end
section
namespace Go.Proofs.Ytjbgnlhgjgnclaa.RatioSpec
set_option linter.unusedVariables false
open Go.RowKit Go.Proofs.Ytjbgnlhgjgnclaa.PB Go.Proofs.YtjbgnlhgjgnclaaW.PrintWords Go.Proofs.YtjbgnlhgjgnclaaW.PrintLast Go.Proofs.YtjbgnlhgjgnclaaW.PrintMore Go.Proofs.YtjbgnlhgjgnclaaW.EvKit
theorem gcd_ev : ∀ (n : Nat) (a b : Nat), b ≤ n → Ev (fun k => ratio_gcd.f k (a : Int) (b : Int)) ((Nat.gcd a b : Nat) : Int) := by
 intro n
 induction n with
 | zero =>
  intro a b hb
  obtain rfl : b = 0 := by omega
  refine Ev.step (fun k => ratio_gcd.l0.eq_2 _ _ k) (Ev.pos rfl ?_)
  rw [Nat.gcd_zero_right]
  exact Ev.ret _
 | succ n ih =>
  intro a b hb
  by_cases h0 : b = 0
  ·
   subst h0
   refine Ev.step (fun k => ratio_gcd.l0.eq_2 _ _ k) (Ev.pos rfl ?_)
   rw [Nat.gcd_zero_right]
   exact Ev.ret _
  ·
   refine Ev.step (fun k => ratio_gcd.l0.eq_2 _ _ k) (Ev.neg (by omega) ?_)
   have hlt := Nat.mod_lt a (show b > 0 by omega)
   have h := ih b (a % b) (by omega)
   have e : Int.tmod (a : Int) (b : Int) = ((a % b : Nat) : Int) := by
    rw [Int.tmod_eq_emod_of_nonneg (by omega)]; rfl
   rw [e, Nat.gcd_comm a b, Nat.gcd_rec b a, Nat.gcd_comm]
   exact h
def makeS (u d : Int) : Int × Int × Int :=
 if u < 0 ∨ d < 1 then (0, 0, 3) else
 if u / (Int.gcd u d : Nat) > 1073741824 ∨ d / (Int.gcd u d : Nat) > 1073741824 then (0, 0, 4) else (u / (Int.gcd u d : Nat), d / (Int.gcd u d : Nat), 0)
def rightS (u d : Int) : Bool := decide (0 ≤ u ∧ 1 ≤ d ∧ u ≤ 1073741824 ∧ d ≤ 1073741824 ∧ Int.gcd u d = 1)
theorem gcd_pos {u d : Int} (h : 1 ≤ d) : 0 < Int.gcd u d := by
 rcases Nat.eq_zero_or_pos (Int.gcd u d) with h0 | h0
 ·
  have := (Int.gcd_eq_zero_iff.1 h0).2
  omega
 ·
  exact h0
theorem gcd_evI {u d : Int} (hu : 0 ≤ u) (hd : 0 ≤ d) : Ev (fun k => ratio_gcd.f k u d) ((Int.gcd u d : Nat) : Int) := by
 obtain ⟨a, rfl⟩ := Int.eq_ofNat_of_zero_le hu
 obtain ⟨b, rfl⟩ := Int.eq_ofNat_of_zero_le hd
 exact gcd_ev b a b (Nat.le_refl _)
theorem quot {u : Int} {g : Nat} (hu : 0 ≤ u) (hu2 : u ≤ 9223372036854775807) : wrap64 (Int.tdiv u (g : Int)) = u / (g : Int) := by
 rw [Int.tdiv_eq_ediv_of_nonneg hu]
 have h0 : 0 ≤ u / (g : Int) := Int.ediv_nonneg hu (by omega)
 have h1 : u / (g : Int) ≤ u := Int.ediv_le_self _ hu
 exact wrap64_of (by omega) (by omega)
theorem make_j {f : Nat → Option Int} {u d : Int} (hf : 0 ≤ u → 1 ≤ d → Ev f ((Int.gcd u d : Nat) : Int)) (hu : -9223372036854775808 ≤ u ∧ u ≤ 9223372036854775807) (hd : -9223372036854775808 ≤ d ∧ d ≤ 9223372036854775807) (b : Bool) (hb : b = decide (u < 0 ∨ d < 1)) :
  Ev (fun k => if b = true then (some (0, 0, 3)) else ((f k).bind fun t => (if t = 0 then (none) else (if (wrap64 (Int.tdiv u t)) > 1073741824 then (some (0, 0, 4)) else (if (wrap64 (Int.tdiv d t)) > 1073741824 then (some (0, 0, 4)) else (some (wrap64 (Int.tdiv u t), wrap64 (Int.tdiv d t), 0))))))) (makeS u d) := by
 subst hb
 unfold makeS
 by_cases hn : u < 0 ∨ d < 1
 ·
  rw [if_pos hn]
  exact Ev.pos (by simpa using hn) (Ev.ret _)
 ·
  rw [if_neg hn]
  have h1 : 0 ≤ u ∧ 1 ≤ d := by omega
  have hg := gcd_pos (u := u) h1.2
  refine Ev.neg (by simpa using hn) (Ev.bind (hf h1.1 h1.2) (Ev.neg (by omega) ?_))
  rw [quot h1.1 hu.2, quot (by omega) hd.2]
  by_cases c1 : u / (Int.gcd u d : Nat) > 1073741824
  ·
   exact Ev.eq (r := (0, 0, 4)) (Ev.pos c1 (Ev.ret _)) (if_pos (Or.inl c1)).symm
  ·
   by_cases c2 : d / (Int.gcd u d : Nat) > 1073741824
   ·
    exact Ev.eq (r := (0, 0, 4)) (Ev.neg c1 (Ev.pos c2 (Ev.ret _))) (if_pos (Or.inr c2)).symm
   ·
    exact Ev.eq (Ev.neg c1 (Ev.neg c2 (Ev.ret _))) (if_neg (by omega)).symm
theorem make_ev {u d : Int} (hu : -9223372036854775808 ≤ u ∧ u ≤ 9223372036854775807) (hd : -9223372036854775808 ≤ d ∧ d ≤ 9223372036854775807) : Ev (fun k => ratio_Make.f k u d) (makeS u d) := by
 have hj : ∀ b, b = decide (u < 0 ∨ d < 1) → Ev (fun k => ratio_Make.j0 k u d b) (makeS u d) := fun b hb =>
  Ev.step (fun k => ratio_Make.j0.eq_2 _ _ _ k) (make_j (fun h0 h1 => gcd_evI h0 (by omega)) hu hd b hb)
 by_cases h : u < 0
 ·
  exact Ev.pos h (hj true (by simp [h]))
 ·
  exact Ev.neg h (hj _ (by simp [h]))
theorem right_g {f : Nat → Option Int} {u d : Int} (hf : 0 ≤ u → 1 ≤ d → Ev f ((Int.gcd u d : Nat) : Int)) :
  Ev (fun k => if u ≥ 0 then (if d ≥ 1 then (if u ≤ 1073741824 then (if d ≤ 1073741824 then ((f k).bind fun t => (some (t == 1))) else (some false)) else (some false)) else (some false)) else (some false)) (rightS u d) := by
 unfold rightS
 by_cases h0 : u ≥ 0
 ·
  by_cases h1 : d ≥ 1
  ·
   by_cases h2 : u ≤ 1073741824
   ·
    by_cases h3 : d ≤ 1073741824
    ·
     refine Ev.pos h0 (Ev.pos h1 (Ev.pos h2 (Ev.pos h3 (Ev.bind (hf h0 h1) (Ev.eq (Ev.ret _) ?_)))))
     rw [Bool.eq_iff_iff]
     simp [h2, h3]
     omega
    ·
     exact Ev.pos h0 (Ev.pos h1 (Ev.pos h2 (Ev.neg h3 (Ev.eq (Ev.ret _) (by symm; simp; omega)))))
   ·
    exact Ev.pos h0 (Ev.pos h1 (Ev.neg h2 (Ev.eq (Ev.ret _) (by symm; simp; omega))))
  ·
   exact Ev.pos h0 (Ev.neg h1 (Ev.eq (Ev.ret _) (by symm; simp; omega)))
 ·
  exact Ev.neg h0 (Ev.eq (Ev.ret _) (by symm; simp; omega))
theorem right_ev (u d : Int) : Ev (fun k => ratio_Right.f k u d) (rightS u d) := right_g (fun h0 h1 => gcd_evI h0 (by omega))
theorem rightS_iff {u d : Int} : rightS u d = true ↔ 0 ≤ u ∧ 1 ≤ d ∧ u ≤ 1073741824 ∧ d ≤ 1073741824 ∧ Int.gcd u d = 1 := by simp [rightS]
theorem mul_bd {a b : Int} (ha : 0 ≤ a) (ha' : a ≤ 1073741824) (hb : 0 ≤ b) (hb' : b ≤ 1073741824) : 0 ≤ a * b ∧ a * b ≤ 1152921504606846976 :=
 ⟨Int.mul_nonneg ha hb, Int.le_trans (Int.mul_le_mul ha' hb' hb (by omega)) (by decide)⟩
def bothS (a0 a1 b0 b1 : Int) (r : Int × Int × Int) : Int × Int × Int := if rightS a0 a1 = true ∧ rightS b0 b1 = true then r else (0, 0, 2)
def timesS (a0 a1 b0 b1 : Int) := bothS a0 a1 b0 b1 (makeS (a0 * b0) (a1 * b1))
theorem both_ev {R : Nat → Int → Int → Option Bool} {m : Nat → Option (Int × Int × Int)} {a0 a1 b0 b1 : Int} {r : Int × Int × Int} (hR : ∀ u d, Ev (fun k => R k u d) (rightS u d))
  (hm : rightS a0 a1 = true → rightS b0 b1 = true → Ev m r) :
  Ev (fun k => (R k a0 a1).bind fun t => (if t = true then ((R k b0 b1).bind fun u => (if u = true then (m k) else (some (0, 0, 2)))) else (some (0, 0, 2)))) (bothS a0 a1 b0 b1 r) := by
 unfold bothS
 refine Ev.bind (hR a0 a1) ?_
 cases h : rightS a0 a1 with
 | false => exact Ev.neg (by simp) (Ev.eq (Ev.ret _) (by simp))
 | true =>
  refine Ev.pos rfl (Ev.bind (hR b0 b1) ?_)
  cases h' : rightS b0 b1 with
  | false => exact Ev.neg (by simp) (Ev.eq (Ev.ret _) (by simp))
  | true => exact Ev.pos rfl (Ev.eq (hm h h') (by simp))
end Go.Proofs.Ytjbgnlhgjgnclaa.RatioSpec
end
section
namespace Go.Proofs.Ytjbgnlhgjgnclaa.RatioSpec
set_option linter.unusedVariables false
open Go.RowKit Go.Proofs.Ytjbgnlhgjgnclaa.PB Go.Proofs.YtjbgnlhgjgnclaaW.PrintWords Go.Proofs.YtjbgnlhgjgnclaaW.PrintLast Go.Proofs.YtjbgnlhgjgnclaaW.PrintMore Go.Proofs.YtjbgnlhgjgnclaaW.EvKit
theorem tm2 (x : Nat) : Int.tmod (x : Int) 2 = ((x % 2 : Nat) : Int) := by rw [Int.tmod_eq_emod_of_nonneg (by omega)]; rfl
theorem td2 (x : Nat) (h : x ≤ 9223372036854775807) : wrap64 (Int.tdiv (x : Int) 2) = ((x / 2 : Nat) : Int) := by
 rw [Int.tdiv_eq_ediv_of_nonneg (by omega), wrap64_of (by omega) (by omega)]; rfl
theorem div_l2 : ∀ (t a : Nat), t ≤ 4611686018427387904 → a * 2 ^ t ≤ 9223372036854775807 → Ev (fun k => hushref1_Divisor.l2 k (a : Int) (t : Int)) ((a * 2 ^ t : Nat) : Int) := by
 intro t
 induction t with
 | zero =>
  intro a _ _
  refine Ev.step (fun k => hushref1_Divisor.l2.eq_2 _ _ k) (Ev.neg (by omega) ?_)
  simpa using Ev.ret _
 | succ t ih =>
  intro a ht h
  have h1 : a ≤ a * 2 ^ t := Nat.le_mul_of_pos_right _ (Nat.two_pow_pos t)
  rw [Nat.pow_succ] at h
  have h2 : a * (2 ^ t * 2) = 2 * a * 2 ^ t := by rw [Nat.mul_comm (2 ^ t) 2, ← Nat.mul_assoc, Nat.mul_comm a 2]
  rw [h2] at h
  have h3 : 2 * a ≤ 2 * a * 2 ^ t := Nat.le_mul_of_pos_right _ (Nat.two_pow_pos t)
  have h4 := ih (2 * a) (by omega) h
  refine Ev.step (fun k => hushref1_Divisor.l2.eq_2 _ _ k) (Ev.pos (by omega) ?_)
  have e1 : wrap64 (2 * (a : Int)) = ((2 * a : Nat) : Int) := by rw [wrap64_of (by omega) (by omega)]; omega
  have e2 : wrap64 (((t + 1 : Nat) : Int) - 1) = ((t : Nat) : Int) := by rw [wrap64_of (by omega) (by omega)]; omega
  simp only [e1, e2]
  rw [Nat.pow_succ, h2]
  exact h4
theorem gcd_half {x y : Nat} (hx : x % 2 = 0) (hy : y % 2 = 1) : Nat.gcd (x / 2) y = Nat.gcd x y := by
 have h : x = 2 * (x / 2) := by omega
 have hc : Nat.Coprime 2 y := by
  unfold Nat.Coprime
  rw [Nat.gcd_rec, hy]
  decide
 rw [h]
 simp only [Nat.mul_div_cancel_left _ (show 0 < 2 by decide)]
 exact (Nat.Coprime.gcd_mul_left_cancel (x / 2) hc).symm
theorem div_l1 : ∀ (n x y t : Nat) {r : Int}, x + y ≤ n → 0 < x → 0 < y → (x % 2 = 1 ∨ y % 2 = 1) → x ≤ 9223372036854775807 → y ≤ 9223372036854775807 →
  Ev (fun k => hushref1_Divisor.l2 k ((Nat.gcd x y : Nat) : Int) (t : Int)) r → Ev (fun k => hushref1_Divisor.l1 k (x : Int) (y : Int) (t : Int)) r := by
 intro n
 induction n with
 | zero => intro x y t r h hx; omega
 | succ n ih =>
  intro x y t r h hx hy ho bx bY hr
  by_cases he : x = y
  ·
   subst he
   rw [Nat.gcd_self] at hr
   exact Ev.step (fun k => hushref1_Divisor.l1.eq_2 _ _ _ k) (Ev.pos rfl hr)
  ·
   refine Ev.step (fun k => hushref1_Divisor.l1.eq_2 _ _ _ k) (Ev.neg (by omega) ?_)
   rw [tm2, tm2, td2 x bx, td2 y bY]
   by_cases h0 : x % 2 = 0
   ·
    refine Ev.pos (by omega) (ih (x / 2) y t (by omega) (by omega) hy (by omega) (by omega) bY ?_)
    rw [gcd_half h0 (by omega)]
    exact hr
   ·
    refine Ev.neg (by omega) ?_
    by_cases h1 : y % 2 = 0
    ·
     refine Ev.pos (by omega) (ih x (y / 2) t (by omega) hx (by omega) (by omega) bx (by omega) ?_)
     rw [Nat.gcd_comm, gcd_half h1 (by omega), Nat.gcd_comm]
     exact hr
    ·
     refine Ev.neg (by omega) ?_
     by_cases h2 : x > y
     ·
      refine Ev.pos (by omega) ?_
      have e : wrap64 ((x : Int) - (y : Int)) = ((x - y : Nat) : Int) := by rw [wrap64_of (by omega) (by omega)]; omega
      rw [e]
      refine ih (x - y) y t (by omega) (by omega) hy (by omega) (by omega) bY ?_
      rw [Nat.gcd_sub_self_left (by omega)]
      exact hr
     ·
      refine Ev.neg (by omega) ?_
      have e : wrap64 ((y : Int) - (x : Int)) = ((y - x : Nat) : Int) := by rw [wrap64_of (by omega) (by omega)]; omega
      rw [e]
      refine ih x (y - x) t (by omega) hx (by omega) (by omega) bx (by omega) ?_
      rw [Nat.gcd_sub_self_right (by omega)]
      exact hr
theorem div_l0 : ∀ (n x y t : Nat) {r : Int}, x ≤ n → 0 < x → 0 < y → x ≤ 9223372036854775807 → y ≤ 9223372036854775807 → t + n ≤ 9223372036854775807 →
  Ev (fun k => hushref1_Divisor.l2 k ((Nat.gcd x y : Nat) : Int) (t : Int)) r → Ev (fun k => hushref1_Divisor.l0 k (x : Int) (y : Int) (t : Int)) r := by
 intro n
 induction n with
 | zero => intro x y t r h hx; omega
 | succ n ih =>
  intro x y t r h hx hy bx bY ht hr
  have hj : (x % 2 = 1 ∨ y % 2 = 1) → Ev (fun k => hushref1_Divisor.j1 k (x : Int) (y : Int) (t : Int)) r := fun ho =>
   Ev.step (fun k => hushref1_Divisor.j1.eq_2 _ _ _ k) (div_l1 (x + y) x y t (Nat.le_refl _) hx hy ho bx bY hr)
  refine Ev.step (fun k => hushref1_Divisor.l0.eq_2 _ _ _ k) ?_
  rw [tm2, tm2, td2 x bx, td2 y bY]
  by_cases h0 : x % 2 = 0
  ·
   by_cases h1 : y % 2 = 0
   ·
    have e : wrap64 ((t : Int) + 1) = ((t + 1 : Nat) : Int) := by rw [wrap64_of (by omega) (by omega)]; omega
    refine Ev.pos (by omega) (Ev.pos (by omega) ?_)
    rw [e]
    refine ih (x / 2) (y / 2) (t + 1) (by omega) (by omega) (by omega) (by omega) (by omega) (by omega) ?_
    have hg : Nat.gcd x y = 2 * Nat.gcd (x / 2) (y / 2) := by
     rw [← Nat.gcd_mul_left]
     congr 1 <;> omega
    have hle : Nat.gcd x y ≤ x := Nat.gcd_le_left y hx
    refine Ev.step (fun k => hushref1_Divisor.l2.eq_2 _ _ k) (Ev.pos (by omega) ?_)
    have e1 : wrap64 (2 * ((Nat.gcd (x / 2) (y / 2) : Nat) : Int)) = ((Nat.gcd x y : Nat) : Int) := by rw [wrap64_of (by omega) (by omega)]; omega
    have e2 : wrap64 (((t + 1 : Nat) : Int) - 1) = ((t : Nat) : Int) := by rw [wrap64_of (by omega) (by omega)]; omega
    simp only [e1, e2]
    exact hr
   ·
    exact Ev.pos (by omega) (Ev.neg (by omega) (hj (by omega)))
  ·
   exact Ev.neg (by omega) (hj (by omega))
theorem div_ev {u d : Int} (hu : 0 ≤ u) (hd : 1 ≤ d) (bu : u ≤ 9223372036854775807) (bd : d ≤ 9223372036854775807) : Ev (fun k => hushref1_Divisor.f k u d) ((Int.gcd u d : Nat) : Int) := by
 obtain ⟨x, rfl⟩ := Int.eq_ofNat_of_zero_le hu
 obtain ⟨y, rfl⟩ := Int.eq_ofNat_of_zero_le (show 0 ≤ d by omega)
 by_cases h0 : x = 0
 ·
  subst h0
  refine Ev.pos rfl (Ev.eq (Ev.ret _) ?_)
  simp
 ·
  refine Ev.neg (by omega) ?_
  show Ev (fun k => hushref1_Divisor.l0 k (x : Int) (y : Int) 0) ((Nat.gcd x y : Nat) : Int)
  refine div_l0 x x y 0 (Nat.le_refl _) (by omega) (by omega) (by omega) (by omega) (by omega) ?_
  refine Ev.eq (div_l2 0 (Nat.gcd x y) (by omega) ?_) (by simp)
  have := Nat.gcd_le_left y (show 0 < x by omega)
  simp
  omega
theorem rright_ev {u d : Int} (hu : -9223372036854775808 ≤ u ∧ u ≤ 9223372036854775807) (hd : -9223372036854775808 ≤ d ∧ d ≤ 9223372036854775807) : Ev (fun k => hushref1_Right.f k u d) (rightS u d) := right_g (fun h0 h1 => div_ev h0 h1 hu.2 hd.2)
end Go.Proofs.Ytjbgnlhgjgnclaa.RatioSpec
end
section
namespace Go.Proofs.Ytjbgnlhgjgnclaa.RatioSpec
set_option linter.unusedVariables false
open Go.RowKit Go.Proofs.Ytjbgnlhgjgnclaa.PB Go.Proofs.YtjbgnlhgjgnclaaW.PrintWords Go.Proofs.YtjbgnlhgjgnclaaW.PrintLast Go.Proofs.YtjbgnlhgjgnclaaW.PrintMore Go.Proofs.YtjbgnlhgjgnclaaW.EvKit
theorem right4 {a0 a1 b0 b1 : Int} (h : rightS a0 a1 = true) (h' : rightS b0 b1 = true) :
  (0 ≤ a0 * b0 ∧ a0 * b0 ≤ 1152921504606846976) ∧ (0 ≤ a1 * b1 ∧ a1 * b1 ≤ 1152921504606846976) ∧ (0 ≤ a0 * b1 ∧ a0 * b1 ≤ 1152921504606846976) ∧ (0 ≤ b0 * a1 ∧ b0 * a1 ≤ 1152921504606846976) := by
 obtain ⟨p1, p2, p3, p4, _⟩ := rightS_iff.1 h
 obtain ⟨q1, q2, q3, q4, _⟩ := rightS_iff.1 h'
 exact ⟨mul_bd p1 p3 q1 q3, mul_bd (by omega) p4 (by omega) q4, mul_bd p1 p3 (by omega) q4, mul_bd q1 q3 (by omega) p4⟩
theorem times_m {m : Nat → Int → Int → Option (Int × Int × Int)} {a0 a1 b0 b1 : Int} (hm : ∀ {u d : Int}, (-9223372036854775808 ≤ u ∧ u ≤ 9223372036854775807) → (-9223372036854775808 ≤ d ∧ d ≤ 9223372036854775807) → Ev (fun k => m k u d) (makeS u d))
  (h : rightS a0 a1 = true) (h' : rightS b0 b1 = true) : Ev (fun k => m k (wrap64 (a0 * b0)) (wrap64 (a1 * b1))) (makeS (a0 * b0) (a1 * b1)) := by
 obtain ⟨k1, k2, k3, k4⟩ := right4 h h'
 rw [wrap64_of (by omega) (by omega), wrap64_of (by omega) (by omega)]
 exact hm (by omega) (by omega)
theorem times_ev (a0 a1 b0 b1 : Int) : Ev (fun k => ratio_Times.f k a0 a1 b0 b1) (timesS a0 a1 b0 b1) := both_ev (R := ratio_Right.f) right_ev (times_m make_ev)
end Go.Proofs.Ytjbgnlhgjgnclaa.RatioSpec
end
section
namespace Go.Proofs.Ytjbgnlhgjgnclaa.NoisePow
set_option linter.unusedVariables false
set_option linter.unusedSimpArgs false
open Go.RowKit Go.Proofs.Ytjbgnlhgjgnclaa.PB Go.Proofs.YtjbgnlhgjgnclaaW.PrintWords Go.Proofs.YtjbgnlhgjgnclaaW.PrintLast Go.Proofs.YtjbgnlhgjgnclaaW.PrintMore Go.Proofs.YtjbgnlhgjgnclaaW.EvKit Go.Proofs.Ytjbgnlhgjgnclaa.RatioSpec
theorem powers_both (p q n : Nat) (hp : p ≤ 1073741824) (hq1 : 1 ≤ q) (hq : q ≤ 1073741824) (hc : Nat.gcd p q = 1) (hn : n ≤ 4096) : ∀ (d i : Nat), i + d = n → p ^ i ≤ 1073741824 → q ^ i ≤ 1073741824 →
  ∃ r, Ev (fun k => ratio_Power.l0 k (n : Int) (i : Int) (p : Int) (q : Int) ((p ^ i : Nat) : Int) ((q ^ i : Nat) : Int)) r ∧ Ev (fun k => hushref1_Power.l0 k (n : Int) ((p ^ i : Nat) : Int) ((q ^ i : Nat) : Int) (i : Int) (p : Int) (q : Int)) r := by
 intro d
 induction d with
 | zero =>
  intro i hi b1 b2
  refine ⟨_, Ev.step (fun k => ratio_Power.l0.eq_2 _ _ _ _ _ _ k) (Ev.neg (by omega) (Ev.ret _)), Ev.step (fun k => hushref1_Power.l0.eq_2 _ _ _ _ _ _ k) (Ev.neg (by omega) ?_)⟩
  by_cases h0 : ((p ^ i : Nat) : Int) = 0
  ·
   refine Ev.pos h0 (Ev.eq (Ev.ret _) ?_)
   have h1 : p ^ i = 0 := by omega
   have hg : Nat.gcd (p ^ i) (q ^ i) = 1 := Nat.Coprime.pow i i hc
   rw [h1, Nat.gcd_zero_left] at hg
   rw [hg]; rfl
  ·
   exact Ev.neg h0 (Ev.ret _)
 | succ d ih =>
  intro i hi b1 b2
  have hw : wrap64 ((i : Int) + 1) = ((i + 1 : Nat) : Int) := by rw [wrap64_of (by omega) (by omega)]; omega
  have hgi : Nat.gcd (p ^ i) (q ^ i) = 1 := Nat.Coprime.pow i i hc
  have hgs : Nat.gcd (p ^ (i + 1)) (q ^ (i + 1)) = 1 := Nat.Coprime.pow (i + 1) (i + 1) hc
  have q1 : 1 ≤ q ^ i := Nat.pow_pos (by omega)
  have q2 : 1 ≤ q ^ (i + 1) := Nat.pow_pos (by omega)
  have hr : rightS ((p ^ i : Nat) : Int) ((q ^ i : Nat) : Int) = true := rightS_iff.2 ⟨by omega, by omega, by omega, by omega, hgi⟩
  have hr' : rightS (p : Int) (q : Int) = true := rightS_iff.2 ⟨by omega, by omega, by omega, by omega, hc⟩
  obtain ⟨k1, k2, _, _⟩ := right4 hr hr'
  have e1 : ((p ^ i : Nat) : Int) * (p : Int) = ((p ^ (i + 1) : Nat) : Int) := by rw [Nat.pow_succ]; simp
  have e2 : ((q ^ i : Nat) : Int) * (q : Int) = ((q ^ (i + 1) : Nat) : Int) := by rw [Nat.pow_succ]; simp
  rw [e1] at k1
  rw [e2] at k2
  have hgI : Int.gcd ((p ^ (i + 1) : Nat) : Int) ((q ^ (i + 1) : Nat) : Int) = 1 := hgs
  have ht : timesS ((p ^ i : Nat) : Int) ((q ^ i : Nat) : Int) (p : Int) (q : Int) = if ((p ^ (i + 1) : Nat) : Int) > 1073741824 ∨ ((q ^ (i + 1) : Nat) : Int) > 1073741824 then (0, 0, 4) else (((p ^ (i + 1) : Nat) : Int), ((q ^ (i + 1) : Nat) : Int), 0) := by
   unfold timesS bothS makeS
   rw [if_pos ⟨hr, hr'⟩, e1, e2, if_neg (by omega), hgI]
   simp
  have hT := times_ev ((p ^ i : Nat) : Int) ((q ^ i : Nat) : Int) (p : Int) (q : Int)
  rw [ht] at hT
  have w1 : wrap64 (((p ^ i : Nat) : Int) * (p : Int)) = ((p ^ (i + 1) : Nat) : Int) := by rw [e1]; exact wrap64_of (by omega) (by omega)
  have w2 : wrap64 (((q ^ i : Nat) : Int) * (q : Int)) = ((q ^ (i + 1) : Nat) : Int) := by rw [e2]; exact wrap64_of (by omega) (by omega)
  by_cases c1 : ((p ^ (i + 1) : Nat) : Int) > 1073741824
  ·
   refine ⟨(0, 0, 4), Ev.step (fun k => ratio_Power.l0.eq_2 _ _ _ _ _ _ k) (Ev.pos (by omega) (Ev.bind hT ?_)), Ev.step (fun k => hushref1_Power.l0.eq_2 _ _ _ _ _ _ k) (Ev.pos (by omega) ?_)⟩
   ·
    rw [if_pos (.inl c1)]
    exact Ev.neg (by simp) (Ev.ret _)
   ·
    rw [w1]
    exact Ev.pos c1 (Ev.ret _)
  ·
   by_cases c2 : ((q ^ (i + 1) : Nat) : Int) > 1073741824
   ·
    refine ⟨(0, 0, 4), Ev.step (fun k => ratio_Power.l0.eq_2 _ _ _ _ _ _ k) (Ev.pos (by omega) (Ev.bind hT ?_)), Ev.step (fun k => hushref1_Power.l0.eq_2 _ _ _ _ _ _ k) (Ev.pos (by omega) ?_)⟩
    ·
     rw [if_pos (.inr c2)]
     exact Ev.neg (by simp) (Ev.ret _)
    ·
     rw [w1, w2]
     exact Ev.neg c1 (Ev.pos c2 (Ev.ret _))
   ·
    obtain ⟨r, hA, hB⟩ := ih (i + 1) (by omega) (Int.ofNat_le.1 (Int.not_lt.1 c1)) (Int.ofNat_le.1 (Int.not_lt.1 c2))
    rw [if_neg (fun h => h.elim c1 c2)] at hT
    refine ⟨r, Ev.step (fun k => ratio_Power.l0.eq_2 _ _ _ _ _ _ k) (Ev.pos (by omega) (Ev.bind hT ?_)), Ev.step (fun k => hushref1_Power.l0.eq_2 _ _ _ _ _ _ k) (Ev.pos (by omega) ?_)⟩
    ·
     dsimp only
     refine Ev.pos rfl ?_
     rw [hw]
     exact hA
    ·
     rw [w1, w2, hw]
     exact Ev.neg c1 (Ev.neg c2 hB)
theorem power_both (u d n : Int) (hu : -9223372036854775808 ≤ u ∧ u ≤ 9223372036854775807) (hd : -9223372036854775808 ≤ d ∧ d ≤ 9223372036854775807) :
  ∃ r, Ev (fun k => ratio_Power.f k u d n) r ∧ Ev (fun k => hushref1_Power.f k u d n) r := by
 have hR := right_ev u d
 have hR' := rright_ev hu hd
 cases h : rightS u d with
 | false =>
  rw [h] at hR hR'
  exact ⟨(0, 0, 2), Ev.bind hR (Ev.neg (by simp) (Ev.ret _)), Ev.bind hR' (Ev.neg (by simp) (Ev.ret _))⟩
 | true =>
  rw [h] at hR hR'
  by_cases h0 : n < 0
  ·
   exact ⟨(0, 0, 3), Ev.bind hR (Ev.pos rfl (Ev.pos h0 (Ev.step (fun k => ratio_Power.j0.eq_2 _ _ _ _ k) (Ev.pos rfl (Ev.ret _))))), Ev.bind hR' (Ev.pos rfl (Ev.pos h0 (Ev.step (fun k => hushref1_Power.j0.eq_2 _ _ _ _ k) (Ev.pos rfl (Ev.ret _)))))⟩
  ·
   by_cases h1 : n > 4096
   ·
    exact ⟨(0, 0, 3), Ev.bind hR (Ev.pos rfl (Ev.neg h0 (Ev.step (fun k => ratio_Power.j0.eq_2 _ _ _ _ k) (Ev.pos (by simpa using h1) (Ev.ret _))))), Ev.bind hR' (Ev.pos rfl (Ev.neg h0 (Ev.step (fun k => hushref1_Power.j0.eq_2 _ _ _ _ k) (Ev.pos (by simpa using h1) (Ev.ret _)))))⟩
   ·
    obtain ⟨p1, p2, p3, p4, p5⟩ := rightS_iff.1 h
    obtain ⟨p, rfl⟩ := Int.eq_ofNat_of_zero_le p1
    obtain ⟨q, rfl⟩ := Int.eq_ofNat_of_zero_le (show 0 ≤ d by omega)
    obtain ⟨m, rfl⟩ := Int.eq_ofNat_of_zero_le (show 0 ≤ n by omega)
    obtain ⟨r, hA, hB⟩ := powers_both p q m (by omega) (by omega) (by omega) p5 (by omega) m 0 (by omega) (by simp) (by simp)
    exact ⟨r, Ev.bind hR (Ev.pos rfl (Ev.neg h0 (Ev.step (fun k => ratio_Power.j0.eq_2 _ _ _ _ k) (Ev.neg (by simpa using h1) hA)))), Ev.bind hR' (Ev.pos rfl (Ev.neg h0 (Ev.step (fun k => hushref1_Power.j0.eq_2 _ _ _ _ k) (Ev.neg (by simpa using h1) hB))))⟩
theorem powF (u d n : Int) (hu : -9223372036854775808 ≤ u ∧ u ≤ 9223372036854775807) (hd : -9223372036854775808 ≤ d ∧ d ≤ 9223372036854775807) : ∃ r, ratio_Power.F u d n = some r ∧ hushref1_Power.F u d n = some r := by
 obtain ⟨r, h1, h2⟩ := power_both u d n hu hd
 exact ⟨r, (ratio_Power.F_is u d n).of_ev h1, (hushref1_Power.F_is u d n).of_ev h2⟩
theorem rightF (u d : Int) (hu : -9223372036854775808 ≤ u ∧ u ≤ 9223372036854775807) (hd : -9223372036854775808 ≤ d ∧ d ≤ 9223372036854775807) : ratio_Right.F u d = some (rightS u d) ∧ hushref1_Right.F u d = some (rightS u d) :=
 ⟨(ratio_Right.F_is u d).of_ev (right_ev u d), (hushref1_Right.F_is u d).of_ev (rright_ev hu hd)⟩
end Go.Proofs.Ytjbgnlhgjgnclaa.NoisePow
end
section
namespace Go.Proofs.Ytjbgnlhgjgnclaa.DistPure
set_option linter.unusedVariables false
set_option linter.unusedSimpArgs false
open Go.RowKit Go.Proofs.Ytjbgnlhgjgnclaa.PB Go.Proofs.YtjbgnlhgjgnclaaW.PrintWords Go.Proofs.YtjbgnlhgjgnclaaW.PrintLast Go.Proofs.YtjbgnlhgjgnclaaW.PrintMore Go.Proofs.YtjbgnlhgjgnclaaW.EvKit
def I64 (x : Int) : Prop := -9223372036854775808 ≤ x ∧ x ≤ 9223372036854775807
def rS (u d : Int) : Bool := RatioSpec.rightS u d
def lossP (u d : Int) : Int := if rS u d = true then (if u < d then 3 else 0) else 2
theorem lossF {u d : Int} (hu : I64 u) (hd : I64 d) : noise_loss.F u d = some (lossP u d) ∧ hushref6_Loss.F u d = some (lossP u d) := by
 obtain ⟨h1, h2⟩ := NoisePow.rightF u d hu hd
 rw [noise_loss.F_eq, h1, Option.bind_some, hushref6_Loss.F_eq, h2, Option.bind_some]
 unfold lossP rS
 constructor <;> · split <;> (try split) <;> rfl
theorem loss_ok {u d : Int} (h : lossP u d = 0) : ∃ a b : Nat, u = (a : Int) ∧ d = (b : Int) ∧ 1 ≤ b ∧ b ≤ a ∧ a ≤ 1073741824 ∧ Nat.gcd a b = 1 := by
 unfold lossP rS at h
 split at h
 ·
  rename_i hr
  obtain ⟨h1, h2, h3, h4, h5⟩ := RatioSpec.rightS_iff.1 hr
  split at h
  ·
   cases h
  ·
   obtain ⟨a, rfl⟩ := Int.eq_ofNat_of_zero_le h1
   obtain ⟨b, rfl⟩ := Int.eq_ofNat_of_zero_le (show 0 ≤ d by omega)
   exact ⟨a, b, rfl, rfl, by omega, by omega, by omega, h5⟩
 ·
  cases h
def capN (x : Nat) : Nat := if x > 1073741824 then 1073741825 else x
theorem pow_grow (a acc m : Nat) (ha : 1 ≤ a) : acc ≤ acc * a ^ m := Nat.le_mul_of_pos_right _ (Nat.pow_pos ha)
theorem npow_loop (a n : Nat) (ha : 1 ≤ a) (ha' : a ≤ 1073741824) (hn : n ≤ 4096) : ∀ (m i acc : Nat), i + m = n → acc ≤ 1073741824 →
  noise_power.L0 (a : Int) (acc : Int) (n : Int) (i : Int) = some ((capN (acc * a ^ m) : Nat) : Int) := by
 intro m
 induction m with
 | zero =>
  intro i acc hi hacc
  rw [noise_power.L0_eq, if_neg (by omega), Nat.pow_zero, Nat.mul_one]
  unfold capN
  rw [if_neg (by omega)]
 | succ m ih =>
  intro i acc hi hacc
  have hb : acc * a ≤ 1073741824 * 1073741824 := Nat.mul_le_mul hacc ha'
  have e : wrap64 ((acc : Int) * (a : Int)) = ((acc * a : Nat) : Int) := by rw [← Int.natCast_mul, wrap64_of (by omega) (by omega)]
  have ep : acc * a ^ (m + 1) = acc * a * a ^ m := by rw [Nat.pow_succ, Nat.mul_comm (a ^ m), Nat.mul_assoc]
  rw [noise_power.L0_eq, if_pos (by omega), e, ep]
  by_cases c : acc * a > 1073741824
  ·
   have := pow_grow a (acc * a) m ha
   rw [if_pos (by omega)]
   unfold capN
   rw [if_pos (by omega)]
   rfl
  ·
   rw [if_neg (by omega), w1 (by omega)]
   exact ih (i + 1) (acc * a) (by omega) (by omega)
theorem npowF {a n : Nat} (ha : 1 ≤ a) (ha' : a ≤ 1073741824) (hn : n ≤ 4096) : noise_power.F (a : Int) (n : Int) = some ((capN (a ^ n) : Nat) : Int) := by
 rw [noise_power.F_eq]
 have h := npow_loop a n ha ha' hn n 0 1 (by omega) (by omega)
 rw [Nat.one_mul] at h
 exact h
theorem rpow_loop (a n : Nat) (ha : 1 ≤ a) (ha' : a ≤ 1073741824) (hn : n ≤ 4096) : ∀ (m i acc : Nat), i + m = n → acc ≤ 1152921504606846976 →
  hushref6_Power.L0 (a : Int) (n : Int) (acc : Int) (i : Int) = some ((capN (acc * a ^ m) : Nat) : Int) := by
 intro m
 induction m with
 | zero =>
  intro i acc hi hacc
  rw [hushref6_Power.L0_eq, if_neg (by omega), Nat.pow_zero, Nat.mul_one]
  unfold capN
  by_cases c : acc > 1073741824
  ·
   rw [if_pos (by omega), if_pos c]; rfl
  ·
   rw [if_neg (by omega), if_neg c]
 | succ m ih =>
  intro i acc hi hacc
  have ep : acc * a ^ (m + 1) = acc * a * a ^ m := by rw [Nat.pow_succ, Nat.mul_comm (a ^ m), Nat.mul_assoc]
  rw [hushref6_Power.L0_eq, if_pos (by omega), ep]
  by_cases c : acc ≤ 1073741824
  ·
   have hb : acc * a ≤ 1073741824 * 1073741824 := Nat.mul_le_mul c ha'
   have e : wrap64 ((acc : Int) * (a : Int)) = ((acc * a : Nat) : Int) := by rw [← Int.natCast_mul, wrap64_of (by omega) (by omega)]
   rw [if_pos (by omega), e, w1 (by omega)]
   exact ih (i + 1) (acc * a) (by omega) (by omega)
  ·
   have h1 := pow_grow a acc 1 ha
   rw [Nat.pow_one] at h1
   have h2 := pow_grow a (acc * a) m ha
   rw [if_neg (by omega), if_pos (by omega)]
   unfold capN
   rw [if_pos (by omega)]
   rfl
theorem rpowF {a n : Nat} (ha : 1 ≤ a) (ha' : a ≤ 1073741824) (hn : n ≤ 4096) : hushref6_Power.F (a : Int) (n : Int) = some ((capN (a ^ n) : Nat) : Int) := by
 rw [hushref6_Power.F_eq]
 have h := rpow_loop a n ha ha' hn n 0 1 (by omega) (by omega)
 rw [Nat.one_mul] at h
 exact h
def dst (z t : Nat) : Nat := (z - t) + (t - z)
def wgt (u d reach t z : Nat) : Nat := d ^ dst z t * u ^ (reach - dst z t) * (if z = 0 ∨ z = reach then u else u - d)
structure Ok (u d reach : Nat) : Prop where
 d1 : 1 ≤ d
 du : d ≤ u
 u2 : u ≤ 1073741824
 r : reach ≤ 64
 p : u ^ reach ≤ 1073741824
 q : u ^ reach * (u + d) ≤ 1073741824
theorem Ok.pw {u d reach : Nat} (h : Ok u d reach) {k : Nat} (hk : k ≤ reach) : d ^ k ≤ 1073741824 ∧ u ^ (reach - k) ≤ 1073741824 ∧ d ^ k * u ^ (reach - k) ≤ u ^ reach := by
 have hu : 1 ≤ u := Nat.le_trans h.d1 h.du
 have h1 : d ^ k ≤ u ^ k := Nat.pow_le_pow_left h.du k
 have h2 : u ^ k ≤ u ^ reach := Nat.pow_le_pow_right hu hk
 have h3 : u ^ (reach - k) ≤ u ^ reach := Nat.pow_le_pow_right hu (by omega)
 have h4 : u ^ k * u ^ (reach - k) = u ^ reach := by rw [← Nat.pow_add]; congr 1; omega
 have h5 : d ^ k * u ^ (reach - k) ≤ u ^ k * u ^ (reach - k) := Nat.mul_le_mul_right _ h1
 have := h.p
 exact ⟨by omega, by omega, by omega⟩
theorem Ok.wb {u d reach : Nat} (h : Ok u d reach) {k f : Nat} (hk : k ≤ reach) (hf : f ≤ u) : d ^ k * u ^ (reach - k) * f ≤ 1073741824 := by
 have h1 := (h.pw hk).2.2
 have h2 : d ^ k * u ^ (reach - k) * f ≤ u ^ reach * (u + d) := Nat.mul_le_mul h1 (by omega)
 have := h.q
 omega
theorem capN_small {x : Nat} (h : x ≤ 1073741824) : capN x = x := by unfold capN; rw [if_neg (by omega)]
theorem dst_mx {z t : Nat} (hz : z ≤ 64) (ht : t ≤ 64) : mx (wrap64 ((z : Int) - (t : Int))) (wrap64 ((t : Int) - (z : Int))) = ((dst z t : Nat) : Int) := by
 rw [wrap64_of (by omega) (by omega), wrap64_of (by omega) (by omega)]
 unfold mx dst
 split <;> omega
theorem dst_le {z t reach : Nat} (hz : z ≤ reach) (ht : t ≤ reach) : dst z t ≤ reach := by unfold dst; omega
def wL (u d reach t n : Nat) : List Int := (List.range n).map (fun (z : Nat) => ((wgt u d reach t z : Nat) : Int))
theorem wL_succ (u d reach t n : Nat) : wL u d reach t (n + 1) = wL u d reach t n ++ [((wgt u d reach t n : Nat) : Int)] := by
 unfold wL; rw [List.range_succ, List.map_append]; rfl
theorem wL_len (u d reach t n : Nat) : (wL u d reach t n).length = n := by unfold wL; simp
theorem set_at {α : Type} (A : List α) (x y : α) (B : List α) : (A ++ x :: B).set A.length y = A ++ y :: B := by simp
theorem ways_loop {u d reach : Nat} (h : Ok u d reach) (t : Nat) (ht : t ≤ reach) : ∀ (n z : Nat), z + n = reach + 1 →
  noise_ways.L0 (reach : Int) (t : Int) (wL u d reach t z ++ List.replicate n 0) ((reach + 1 : Nat) : Int) (z : Int) (u : Int) (d : Int) = some (wL u d reach t (reach + 1)) := by
 intro n
 have hr := h.r
 have hu : 1 ≤ u := Nat.le_trans h.d1 h.du
 induction n with
 | zero =>
  intro z hz
  obtain rfl : z = reach + 1 := by omega
  rw [noise_ways.L0_eq, if_neg (by omega), List.replicate_zero, List.append_nil]
 | succ n ih =>
  intro z hz
  have hk := dst_le (z := z) (by omega) ht
  obtain ⟨p1, p2, p3⟩ := h.pw hk
  have hd2 := h.du
  have hu2 := h.u2
  have e1 := npowF (a := d) (n := dst z t) h.d1 (by omega) (by omega)
  have e2 := npowF (a := u) (n := reach - dst z t) hu h.u2 (by omega)
  rw [capN_small p1] at e1
  rw [capN_small p2] at e2
  have e3 : wrap64 ((reach : Int) - ((dst z t : Nat) : Int)) = ((reach - dst z t : Nat) : Int) := by rw [wrap64_of (by omega) (by omega)]; omega
  have e4 : wrap64 (((d ^ dst z t : Nat) : Int) * ((u ^ (reach - dst z t) : Nat) : Int)) = ((d ^ dst z t * u ^ (reach - dst z t) : Nat) : Int) := by
   rw [← Int.natCast_mul, wrap64_of (by omega) (by have := h.p; omega)]
  have hlen : (wL u d reach t z ++ List.replicate (n + 1) 0).length = reach + 1 := by rw [List.length_append, wL_len, List.length_replicate]; omega
  have hset : ∀ v : Int, (wL u d reach t z ++ List.replicate (n + 1) 0).set z v = wL u d reach t z ++ v :: List.replicate n 0 := fun v => by
   rw [List.replicate_succ]
   have := set_at (wL u d reach t z) 0 v (List.replicate n 0)
   rw [wL_len] at this
   exact this
  have hset2 : ∀ v v' : Int, (wL u d reach t z ++ v :: List.replicate n 0).set z v' = wL u d reach t z ++ v' :: List.replicate n 0 := fun v v' => by
   have := set_at (wL u d reach t z) v v' (List.replicate n 0)
   rw [wL_len] at this
   exact this
  have hrd : ∀ v : Int, rd (wL u d reach t z ++ v :: List.replicate n 0) (z : Int) = v := fun v => by
   rw [rd_nat, List.getD_eq_getElem?_getD, List.getElem?_append_right (by rw [wL_len]; exact Nat.le_refl _), wL_len, Nat.sub_self]; rfl
  rw [noise_ways.L0_eq, if_pos (by omega), dst_mx (by omega) (by omega), e1, Option.bind_some, e3, e2, Option.bind_some, if_pos (by omega), if_pos (by rw [hlen]; omega), e4, Option.bind_some, Int.toNat_natCast, hset, hrd, hset2, w1 (by omega)]
  have fin : ∀ f : Nat, f ≤ u → f = (if z = 0 ∨ z = reach then u else u - d) → noise_ways.L0 (reach : Int) (t : Int) (wL u d reach t z ++ wrap64 (((d ^ dst z t * u ^ (reach - dst z t) : Nat) : Int) * (f : Int)) :: List.replicate n 0) ((reach + 1 : Nat) : Int) ((z + 1 : Nat) : Int) (u : Int) (d : Int) = some (wL u d reach t (reach + 1)) := by
   intro f hf ef
   have hb := h.wb (f := f) hk hf
   have e5 : wrap64 (((d ^ dst z t * u ^ (reach - dst z t) : Nat) : Int) * (f : Int)) = ((wgt u d reach t z : Nat) : Int) := by
    rw [← Int.natCast_mul, wrap64_of (by omega) (by omega)]
    unfold wgt
    rw [← ef]
   rw [e5]
   have e6 : wL u d reach t z ++ ((wgt u d reach t z : Nat) : Int) :: List.replicate n 0 = wL u d reach t (z + 1) ++ List.replicate n 0 := by rw [wL_succ, List.append_assoc]; rfl
   rw [e6]
   exact ih (z + 1) (by omega)
  by_cases c1 : z = 0
  ·
   rw [if_pos (by omega)]
   exact fin u (Nat.le_refl u) (by rw [if_pos (.inl c1)])
  ·
   rw [if_neg (by omega)]
   by_cases c2 : z = reach
   ·
    rw [if_pos (by omega)]
    exact fin u (Nat.le_refl u) (by rw [if_pos (.inr c2)])
   ·
    have e7 : wrap64 ((u : Int) - (d : Int)) = ((u - d : Nat) : Int) := by rw [wrap64_of (by omega) (by omega)]; omega
    rw [if_neg (by omega), hset2, e7]
    exact fin (u - d) (by omega) (by rw [if_neg (by omega)])
theorem waysF {u d reach : Nat} (h : Ok u d reach) (t : Nat) (ht : t ≤ reach) : noise_ways.F (u : Int) (d : Int) (reach : Int) (t : Int) = some (wL u d reach t (reach + 1)) := by
 have hr := h.r
 rw [noise_ways.F_eq, w1 (by omega), if_pos (by omega), Int.toNat_natCast, if_pos (by omega), Option.bind_some]
 have h := ways_loop h t ht (reach + 1) 0 (by omega)
 have e0 : wL u d reach t 0 = [] := rfl
 rw [e0, List.nil_append] at h
 rw [List.length_replicate]
 exact h
def hidL (low : Int) (u d reach t n : Nat) : List S64 := (List.range n).map (fun (z : Nat) => (⟨[low + (z : Int)], ((wgt u d reach t z : Nat) : Int)⟩ : S64))
theorem hidL_succ (low : Int) (u d reach t n : Nat) : hidL low u d reach t (n + 1) = hidL low u d reach t n ++ [⟨[low + (n : Int)], ((wgt u d reach t n : Nat) : Int)⟩] := by
 unfold hidL; rw [List.range_succ, List.map_append]; rfl
theorem hidL_bd (low : Int) (u d reach t n : Nat) (hn : n ≤ 1048576) : Bd (hidL low u d reach t n) := by
 refine ⟨by unfold hidL; simpa using hn, fun p hp => ?_⟩
 unfold hidL at hp
 obtain ⟨z, _, rfl⟩ := List.mem_map.1 hp
 simp
theorem hide_loop (low : Int) (h0 : -1073741824 ≤ low) (h1 : low ≤ 1073741824) (u d reach t : Nat) (hr : reach ≤ 64) : ∀ (n z : Nat), z + n = reach + 1 →
  noise_Hide.L0 low (hidL low u d reach t z) (wL u d reach t (reach + 1)) ((reach + 1 : Nat) : Int) (z : Int) = some (makeP (hidL low u d reach t (reach + 1))) := by
 intro n
 induction n with
 | zero =>
  intro z hz
  obtain rfl : z = reach + 1 := by omega
  rw [noise_Hide.L0_eq, if_neg (by omega), makeF1 _ (hidL_bd low u d reach t (reach + 1) (by omega)), Option.bind_some]
 | succ n ih =>
  intro z hz
  have hlen : (hidL low u d reach t z).length = z := by unfold hidL; simp
  have hrd : rd (wL u d reach t (reach + 1)) (z : Int) = ((wgt u d reach t z : Nat) : Int) := by
   rw [rd_nat]
   unfold wL
   rw [List.getD_eq_getElem?_getD, List.getElem?_map, List.getElem?_range (by omega)]; rfl
  rw [noise_Hide.L0_eq, if_pos (by omega), if_pos (by omega), if_pos (by rw [wL_len]; omega), if_pos (by omega), hrd, w1 (by omega), wrap64_of (x := low + (z : Int)) (by omega) (by omega), ← hidL_succ]
  exact ih (z + 1) (by omega)
theorem rhide_loop {u d reach : Nat} (h : Ok u d reach) (t : Nat) (ht : t ≤ reach) (low : Int) (h0 : -1073741824 ≤ low) (h1 : low ≤ 1073741824) : ∀ (n z : Nat), z + n = reach + 1 →
  hushref6_Hide.L0 low (low + (reach : Int)) (low + (t : Int)) (hidL low u d reach t z) (low + (z : Int)) (u : Int) (d : Int) = some (makeP (hidL low u d reach t (reach + 1))) := by
 intro n
 have hr := h.r
 have hu : 1 ≤ u := Nat.le_trans h.d1 h.du
 have hd2 := h.du
 have hu2 := h.u2
 induction n with
 | zero =>
  intro z hz
  obtain rfl : z = reach + 1 := by omega
  rw [hushref6_Hide.L0_eq, if_neg (by omega), rmakeF1 _ (hidL_bd low u d reach t (reach + 1) (by omega)), Option.bind_some]
 | succ n ih =>
  intro z hz
  have hk := dst_le (z := z) (by omega) ht
  obtain ⟨p1, p2, p3⟩ := h.pw hk
  have hlen : (hidL low u d reach t z).length = z := by unfold hidL; simp
  have e1 := rpowF (a := d) (n := dst z t) h.d1 (by omega) (by omega)
  have e2 := rpowF (a := u) (n := reach - dst z t) hu h.u2 (by omega)
  rw [capN_small p1] at e1
  rw [capN_small p2] at e2
  have e3 : wrap64 (wrap64 (low + (reach : Int) - low) - ((dst z t : Nat) : Int)) = ((reach - dst z t : Nat) : Int) := by
   rw [wrap64_of (x := low + (reach : Int) - low) (by omega) (by omega), wrap64_of (by omega) (by omega)]; omega
  have e7 : wrap64 ((u : Int) - (d : Int)) = ((u - d : Nat) : Int) := by rw [wrap64_of (by omega) (by omega)]; omega
  have fin : ∀ f : Nat, f ≤ u → f = (if z = 0 ∨ z = reach then u else u - d) → (if (hidL low u d reach t z).length < 4398046511104 then (hushref6_Hide.L0 low (low + (reach : Int)) (low + (t : Int)) (hidL low u d reach t z ++ [(⟨(([low + (z : Int)] : List Int)), wrap64 ((wrap64 ((f : Int) * ((d ^ dst z t : Nat) : Int))) * ((u ^ (reach - dst z t) : Nat) : Int))⟩ : S64)]) (wrap64 (low + (z : Int) + 1)) (u : Int) (d : Int)) else none) = some (makeP (hidL low u d reach t (reach + 1))) := by
   intro f hf ef
   have hb := h.wb (f := f) hk hf
   have hup : 1 ≤ u ^ (reach - dst z t) := Nat.pow_pos hu
   have hb2 : f * d ^ dst z t ≤ d ^ dst z t * u ^ (reach - dst z t) * f := by
    calc f * d ^ dst z t = d ^ dst z t * f := Nat.mul_comm _ _
     _ ≤ d ^ dst z t * u ^ (reach - dst z t) * f := Nat.mul_le_mul_right f (Nat.le_mul_of_pos_right _ hup)
   have e5 : wrap64 ((wrap64 ((f : Int) * ((d ^ dst z t : Nat) : Int))) * ((u ^ (reach - dst z t) : Nat) : Int)) = ((wgt u d reach t z : Nat) : Int) := by
    have e6 : wrap64 ((f : Int) * ((d ^ dst z t : Nat) : Int)) = ((f * d ^ dst z t : Nat) : Int) := by rw [← Int.natCast_mul, wrap64_of (by omega) (by omega)]
    have e8 : f * d ^ dst z t * u ^ (reach - dst z t) = d ^ dst z t * u ^ (reach - dst z t) * f := by rw [Nat.mul_comm f, Nat.mul_assoc, Nat.mul_comm f, ← Nat.mul_assoc]
    rw [e6, ← Int.natCast_mul, e8, wrap64_of (by omega) (by omega)]
    unfold wgt
    rw [← ef]
   rw [if_pos (by omega), e5, ← hidL_succ]
   have e9 : wrap64 (low + (z : Int) + 1) = low + ((z + 1 : Nat) : Int) := by rw [wrap64_of (by omega) (by omega)]; omega
   rw [e9]
   exact ih (z + 1) (by omega)
  have J6 : ∀ b : Bool, b = decide (z = 0 ∨ z = reach) → hushref6_Hide.J6 low (low + (reach : Int)) (low + (t : Int)) (hidL low u d reach t z) (low + (z : Int)) ((dst z t : Nat) : Int) ((u - d : Nat) : Int) b (u : Int) (d : Int) = some (makeP (hidL low u d reach t (reach + 1))) := by
   intro b hb
   rw [hushref6_Hide.J6_eq, e3, e1, e2]
   by_cases c : z = 0 ∨ z = reach
   ·
    rw [hb, if_pos (decide_eq_true c), Option.bind_some, Option.bind_some]
    exact fin u (Nat.le_refl u) (by rw [if_pos c])
   ·
    rw [hb, if_neg (by simpa using c), Option.bind_some, Option.bind_some]
    exact fin (u - d) (by omega) (by rw [if_neg c])
  have J5 : hushref6_Hide.J5 low (low + (reach : Int)) (low + (t : Int)) (hidL low u d reach t z) (low + (z : Int)) ((dst z t : Nat) : Int) (u : Int) (d : Int) = some (makeP (hidL low u d reach t (reach + 1))) := by
   rw [hushref6_Hide.J5_eq, e7]
   by_cases c : z = 0
   ·
    rw [if_pos (by omega)]
    exact J6 true (by simp [c])
   ·
    rw [if_neg (by omega)]
    refine J6 _ ?_
    show decide (_ = _) = decide _
    rw [decide_eq_decide]
    omega
  have ed : wrap64 (low + (z : Int) - (low + (t : Int))) = (z : Int) - (t : Int) := by rw [wrap64_of (by omega) (by omega)]; omega
  rw [hushref6_Hide.L0_eq, if_pos (by omega), ed]
  by_cases c : (z : Int) - (t : Int) < 0
  ·
   have e10 : wrap64 (-((z : Int) - (t : Int))) = ((dst z t : Nat) : Int) := by rw [wrap64_of (by omega) (by omega)]; unfold dst; omega
   rw [if_pos c, e10]
   exact J5
  ·
   have e10 : (z : Int) - (t : Int) = ((dst z t : Nat) : Int) := by unfold dst; omega
   rw [if_neg c, e10]
   exact J5
end Go.Proofs.Ytjbgnlhgjgnclaa.DistPure
end
section
namespace Go.Proofs.Ytjbgnlhgjgnclaa.PB
set_option maxRecDepth 100000
open Go.RowKit Go.Proofs.YtjbgnlhgjgnclaaW.PrintWords Go.Proofs.YtjbgnlhgjgnclaaW.PrintLast Go.Proofs.YtjbgnlhgjgnclaaW.PrintMore
open Go.Proofs.YtjbgnlhgjgnclaaW.EvKit
set_option linter.unusedVariables false
noncomputable def noise_HideAll.L0 (x1 : Int) (x2 : Int) (x10 : List (List (S64))) (x15 : List Int) (x16 : Int) (x17 : Int) (x260000 : Int) (x260001 : Int) : Option ((List (List (S64))) × Int) := lim (fun k => noise_HideAll.l0 k x1 x2 x10 x15 x16 x17 x260000 x260001)
theorem noise_HideAll.L0_is (x1 : Int) (x2 : Int) (x10 : List (List (S64))) (x15 : List Int) (x16 : Int) (x17 : Int) (x260000 : Int) (x260001 : Int) : LimIs (fun k => noise_HideAll.l0 k x1 x2 x10 x15 x16 x17 x260000 x260001) (noise_HideAll.L0 x1 x2 x10 x15 x16 x17 x260000 x260001) := ⟨fun k => (noise_HideAll.mono_l k) x1 x2 x10 x15 x16 x17 x260000 x260001, rfl⟩
noncomputable def hushref6_HideAll.L0 (x1 : Int) (x2 : Int) (x10 : List (List (S64))) (x15 : List Int) (x16 : Int) (x17 : Int) (x269000 : Int) (x269001 : Int) : Option ((List (List (S64))) × Int) := lim (fun k => hushref6_HideAll.l0 k x1 x2 x10 x15 x16 x17 x269000 x269001)
theorem hushref6_HideAll.L0_is (x1 : Int) (x2 : Int) (x10 : List (List (S64))) (x15 : List Int) (x16 : Int) (x17 : Int) (x269000 : Int) (x269001 : Int) : LimIs (fun k => hushref6_HideAll.l0 k x1 x2 x10 x15 x16 x17 x269000 x269001) (hushref6_HideAll.L0 x1 x2 x10 x15 x16 x17 x269000 x269001) := ⟨fun k => (hushref6_HideAll.mono_l k) x1 x2 x10 x15 x16 x17 x269000 x269001, rfl⟩
noncomputable def hushref6_SameDists.L0 (x0 : List (List (S64))) (x1 : List (List (S64))) (x12 : Int) (x13 : Int) : Option (Bool) := lim (fun k => hushref6_SameDists.l0 k x0 x1 x12 x13)
theorem hushref6_SameDists.L0_is (x0 : List (List (S64))) (x1 : List (List (S64))) (x12 : Int) (x13 : Int) : LimIs (fun k => hushref6_SameDists.l0 k x0 x1 x12 x13) (hushref6_SameDists.L0 x0 x1 x12 x13) := ⟨fun k => (hushref6_SameDists.mono_l k) x0 x1 x12 x13, rfl⟩
noncomputable def noise_HideAll.F (a0_0 : Int) (a0_1 : Int) (a1 : Int) (a2 : Int) (l3 : List Int) : Option ((List (List (S64))) × Int) := lim (fun k => noise_HideAll.f k a0_0 a0_1 a1 a2 l3)
theorem noise_HideAll.F_is (a0_0 : Int) (a0_1 : Int) (a1 : Int) (a2 : Int) (l3 : List Int) : LimIs (fun k => noise_HideAll.f k a0_0 a0_1 a1 a2 l3) (noise_HideAll.F a0_0 a0_1 a1 a2 l3) := ⟨fun k => noise_HideAll.mono a0_0 a0_1 a1 a2 l3 k, rfl⟩
noncomputable def hushref6_HideAll.F (a0_0 : Int) (a0_1 : Int) (a1 : Int) (a2 : Int) (l3 : List Int) : Option ((List (List (S64))) × Int) := lim (fun k => hushref6_HideAll.f k a0_0 a0_1 a1 a2 l3)
theorem hushref6_HideAll.F_is (a0_0 : Int) (a0_1 : Int) (a1 : Int) (a2 : Int) (l3 : List Int) : LimIs (fun k => hushref6_HideAll.f k a0_0 a0_1 a1 a2 l3) (hushref6_HideAll.F a0_0 a0_1 a1 a2 l3) := ⟨fun k => hushref6_HideAll.mono a0_0 a0_1 a1 a2 l3 k, rfl⟩
noncomputable def hushref6_SameDists.F (l0 : List (List (S64))) (l1 : List (List (S64))) : Option (Bool) := lim (fun k => hushref6_SameDists.f k l0 l1)
theorem hushref6_SameDists.F_is (l0 : List (List (S64))) (l1 : List (List (S64))) : LimIs (fun k => hushref6_SameDists.f k l0 l1) (hushref6_SameDists.F l0 l1) := ⟨fun k => hushref6_SameDists.mono l0 l1 k, rfl⟩
theorem noise_HideAll.L0_eq (x1 : Int) (x2 : Int) (x10 : List (List (S64))) (x15 : List Int) (x16 : Int) (x17 : Int) (x260000 : Int) (x260001 : Int) : noise_HideAll.L0 x1 x2 x10 x15 x16 x17 x260000 x260001 = if x17 < x16 then (if 0 ≤ x17 then (if x17 < (x15.length : Int) then ((noise_Hide.F x260000 x260001 x1 x2 (rd x15 x17)).bind fun bt261 => (if bt261.2 = 0 then (if x10.length < 5864062014805 then (noise_HideAll.L0 x1 x2 (x10 ++ [bt261.1]) x15 x16 (wrap64 (x17 + 1)) x260000 x260001) else (none)) else (some (([] : List (List (S64))), bt261.2)))) else (none)) else (none)) else (some (x10, 0)) := by
 refine LimIs.step' (noise_HideAll.L0_is x1 x2 x10 x15 x16 x17 x260000 x260001).1 (b := fun k => if x17 < x16 then (if 0 ≤ x17 then (if x17 < (x15.length : Int) then ((noise_Hide.f k x260000 x260001 x1 x2 (rd x15 x17)).bind fun bt261 => (if bt261.2 = 0 then (if x10.length < 5864062014805 then (noise_HideAll.l0 k x1 x2 (x10 ++ [bt261.1]) x15 x16 (wrap64 (x17 + 1)) x260000 x260001) else (none)) else (some (([] : List (List (S64))), bt261.2)))) else (none)) else (none)) else (some (x10, 0))) (fun k => by rfl) ?_
 repeat' first
  | (with_reducible exact noise_Hide.F_is _ _ _ _ _)
  | (with_reducible exact noise_HideAll.L0_is _ _ _ _ _ _ _ _)
  | (with_reducible exact LimIs.const _)
  | (with_reducible refine LimIs.ite ?_ ?_)
  | (with_reducible refine LimIs.bind ?_ (fun _ => ?_))
theorem hushref6_HideAll.L0_eq (x1 : Int) (x2 : Int) (x10 : List (List (S64))) (x15 : List Int) (x16 : Int) (x17 : Int) (x269000 : Int) (x269001 : Int) : hushref6_HideAll.L0 x1 x2 x10 x15 x16 x17 x269000 x269001 = if x17 < x16 then (if 0 ≤ x17 then (if x17 < (x15.length : Int) then ((hushref6_Hide.F x269000 x269001 x1 x2 (rd x15 x17)).bind fun bt270 => (if bt270.2 = 0 then (if x10.length < 5864062014805 then (hushref6_HideAll.L0 x1 x2 (x10 ++ [bt270.1]) x15 x16 (wrap64 (x17 + 1)) x269000 x269001) else (none)) else (some (([] : List (List (S64))), bt270.2)))) else (none)) else (none)) else (some (x10, 0)) := by
 refine LimIs.step' (hushref6_HideAll.L0_is x1 x2 x10 x15 x16 x17 x269000 x269001).1 (b := fun k => if x17 < x16 then (if 0 ≤ x17 then (if x17 < (x15.length : Int) then ((hushref6_Hide.f k x269000 x269001 x1 x2 (rd x15 x17)).bind fun bt270 => (if bt270.2 = 0 then (if x10.length < 5864062014805 then (hushref6_HideAll.l0 k x1 x2 (x10 ++ [bt270.1]) x15 x16 (wrap64 (x17 + 1)) x269000 x269001) else (none)) else (some (([] : List (List (S64))), bt270.2)))) else (none)) else (none)) else (some (x10, 0))) (fun k => by rfl) ?_
 repeat' first
  | (with_reducible exact hushref6_Hide.F_is _ _ _ _ _)
  | (with_reducible exact hushref6_HideAll.L0_is _ _ _ _ _ _ _ _)
  | (with_reducible exact LimIs.const _)
  | (with_reducible refine LimIs.ite ?_ ?_)
  | (with_reducible refine LimIs.bind ?_ (fun _ => ?_))
theorem hushref6_SameDists.L0_eq (x0 : List (List (S64))) (x1 : List (List (S64))) (x12 : Int) (x13 : Int) : hushref6_SameDists.L0 x0 x1 x12 x13 = if x13 < x12 then (if 0 ≤ x13 then (if x13 < (x0.length : Int) then (if x13 < (x1.length : Int) then ((hushref2_Same.F (rd_L3 x0 x13) (rd_L3 x1 x13)).bind fun t279 => (if t279 = true then (hushref6_SameDists.L0 x0 x1 x12 (wrap64 (x13 + 1))) else (some false))) else (none)) else (none)) else (none)) else (some true) := by
 refine LimIs.step' (hushref6_SameDists.L0_is x0 x1 x12 x13).1 (b := fun k => if x13 < x12 then (if 0 ≤ x13 then (if x13 < (x0.length : Int) then (if x13 < (x1.length : Int) then ((hushref2_Same.f k (rd_L3 x0 x13) (rd_L3 x1 x13)).bind fun t279 => (if t279 = true then (hushref6_SameDists.l0 k x0 x1 x12 (wrap64 (x13 + 1))) else (some false))) else (none)) else (none)) else (none)) else (some true)) (fun k => by rfl) ?_
 repeat' first
  | (with_reducible exact hushref2_Same.F_is _ _)
  | (with_reducible exact hushref6_SameDists.L0_is _ _ _ _)
  | (with_reducible exact LimIs.const _)
  | (with_reducible refine LimIs.ite ?_ ?_)
  | (with_reducible refine LimIs.bind ?_ (fun _ => ?_))
theorem noise_HideAll.F_eq (a0_0 : Int) (a0_1 : Int) (a1 : Int) (a2 : Int) (l3 : List Int) : noise_HideAll.F a0_0 a0_1 a1 a2 l3 = noise_HideAll.L0 a1 a2 ([] : List (List (S64))) l3 (l3.length : Int) 0 a0_0 a0_1 := by
 refine LimIs.out (?_ : LimIs (fun k => noise_HideAll.l0 k a1 a2 ([] : List (List (S64))) l3 (l3.length : Int) 0 a0_0 a0_1) _)
 repeat' (with_reducible exact noise_HideAll.L0_is _ _ _ _ _ _ _ _)
theorem hushref6_HideAll.F_eq (a0_0 : Int) (a0_1 : Int) (a1 : Int) (a2 : Int) (l3 : List Int) : hushref6_HideAll.F a0_0 a0_1 a1 a2 l3 = hushref6_HideAll.L0 a1 a2 ([] : List (List (S64))) l3 (l3.length : Int) 0 a0_0 a0_1 := by
 refine LimIs.out (?_ : LimIs (fun k => hushref6_HideAll.l0 k a1 a2 ([] : List (List (S64))) l3 (l3.length : Int) 0 a0_0 a0_1) _)
 repeat' (with_reducible exact hushref6_HideAll.L0_is _ _ _ _ _ _ _ _)
theorem hushref6_SameDists.F_eq (l0 : List (List (S64))) (l1 : List (List (S64))) : hushref6_SameDists.F l0 l1 = if (l0.length : Int) = (l1.length : Int) then (hushref6_SameDists.L0 l0 l1 (l0.length : Int) 0) else (some false) := by
 refine LimIs.out (?_ : LimIs (fun k => if (l0.length : Int) = (l1.length : Int) then (hushref6_SameDists.l0 k l0 l1 (l0.length : Int) 0) else (some false)) _)
 repeat' first
  | (with_reducible exact hushref6_SameDists.L0_is _ _ _ _)
  | (with_reducible exact LimIs.const _)
  | (with_reducible refine LimIs.ite ?_ ?_)
end Go.Proofs.Ytjbgnlhgjgnclaa.PB
end
section
namespace Go.Proofs.Ytjbgnlhgjgnclaa.PB
set_option maxRecDepth 100000
open Go.RowKit Go.Proofs.YtjbgnlhgjgnclaaW.PrintWords Go.Proofs.YtjbgnlhgjgnclaaW.PrintLast Go.Proofs.YtjbgnlhgjgnclaaW.PrintMore
open Go.Proofs.YtjbgnlhgjgnclaaW.EvKit
set_option linter.unusedVariables false
noncomputable def noise_Respond.J0 (x1 : Int) (x2 : Int) (x32 : Bool) (x308000 : Int) (x308001 : Int) : Option ((List (S64)) × Int) := lim (fun k => noise_Respond.j0 k x1 x2 x32 x308000 x308001)
theorem noise_Respond.J0_is (x1 : Int) (x2 : Int) (x32 : Bool) (x308000 : Int) (x308001 : Int) : LimIs (fun k => noise_Respond.j0 k x1 x2 x32 x308000 x308001) (noise_Respond.J0 x1 x2 x32 x308000 x308001) := ⟨fun k => (noise_Respond.mono_l k).1 x1 x2 x32 x308000 x308001, rfl⟩
noncomputable def noise_Respond.L0 (x10 : List (S64)) (x52 : List Int) (x53 : Int) (x54 : Int) : Option ((List (S64)) × Int) := lim (fun k => noise_Respond.l0 k x10 x52 x53 x54)
theorem noise_Respond.L0_is (x10 : List (S64)) (x52 : List Int) (x53 : Int) (x54 : Int) : LimIs (fun k => noise_Respond.l0 k x10 x52 x53 x54) (noise_Respond.L0 x10 x52 x53 x54) := ⟨fun k => (noise_Respond.mono_l k).2 x10 x52 x53 x54, rfl⟩
noncomputable def noise_Respond.F (a0_0 : Int) (a0_1 : Int) (a1 : Int) (a2 : Int) : Option ((List (S64)) × Int) := lim (fun k => noise_Respond.f k a0_0 a0_1 a1 a2)
theorem noise_Respond.F_is (a0_0 : Int) (a0_1 : Int) (a1 : Int) (a2 : Int) : LimIs (fun k => noise_Respond.f k a0_0 a0_1 a1 a2) (noise_Respond.F a0_0 a0_1 a1 a2) := ⟨fun k => noise_Respond.mono a0_0 a0_1 a1 a2 k, rfl⟩
theorem noise_Respond.J0_eq (x1 : Int) (x2 : Int) (x32 : Bool) (x308000 : Int) (x308001 : Int) : noise_Respond.J0 x1 x2 x32 x308000 x308001 = if x32 = true then (some (([] : List (S64)), 3)) else (if (wrap64 (x308000 + (wrap64 ((wrap64 (x1 - 1)) * x308001)))) > 1073741824 then (some (([] : List (S64)), 4)) else ((slices_Repeat_int_int.f (([x308001] : List Int)) x1).bind fun t312 => (if 0 ≤ x2 then (if x2 < (t312.length : Int) then (noise_Respond.L0 ([] : List (S64)) (t312.set (x2 : Int).toNat x308000) (t312.length : Int) 0) else (none)) else (none)))) := by
 refine LimIs.step' (noise_Respond.J0_is x1 x2 x32 x308000 x308001).1 (b := fun k => if x32 = true then (some (([] : List (S64)), 3)) else (if (wrap64 (x308000 + (wrap64 ((wrap64 (x1 - 1)) * x308001)))) > 1073741824 then (some (([] : List (S64)), 4)) else ((slices_Repeat_int_int.f (([x308001] : List Int)) x1).bind fun t312 => (if 0 ≤ x2 then (if x2 < (t312.length : Int) then (noise_Respond.l0 k ([] : List (S64)) (t312.set (x2 : Int).toNat x308000) (t312.length : Int) 0) else (none)) else (none))))) (fun k => by rfl) ?_
 repeat' first
  | (with_reducible exact noise_Respond.L0_is _ _ _ _)
  | (with_reducible exact LimIs.const _)
  | (with_reducible refine LimIs.ite ?_ ?_)
  | (with_reducible refine LimIs.bind ?_ (fun _ => ?_))
theorem noise_Respond.L0_eq (x10 : List (S64)) (x52 : List Int) (x53 : Int) (x54 : Int) : noise_Respond.L0 x10 x52 x53 x54 = if x54 < x53 then (if 0 ≤ x54 then (if x54 < (x52.length : Int) then (if x10.length < 4398046511104 then (noise_Respond.L0 (x10 ++ [(⟨(([x54] : List Int)), rd x52 x54⟩ : S64)]) x52 x53 (wrap64 (x54 + 1))) else (none)) else (none)) else (none)) else ((dist_Make.F x10).bind fun bt323 => (some (bt323.1, bt323.2))) := by
 refine LimIs.step' (noise_Respond.L0_is x10 x52 x53 x54).1 (b := fun k => if x54 < x53 then (if 0 ≤ x54 then (if x54 < (x52.length : Int) then (if x10.length < 4398046511104 then (noise_Respond.l0 k (x10 ++ [(⟨(([x54] : List Int)), rd x52 x54⟩ : S64)]) x52 x53 (wrap64 (x54 + 1))) else (none)) else (none)) else (none)) else ((dist_Make.f k x10).bind fun bt323 => (some (bt323.1, bt323.2)))) (fun k => by rfl) ?_
 repeat' first
  | (with_reducible exact noise_Respond.L0_is _ _ _ _)
  | (with_reducible exact dist_Make.F_is _)
  | (with_reducible exact LimIs.const _)
  | (with_reducible refine LimIs.ite ?_ ?_)
  | (with_reducible refine LimIs.bind ?_ (fun _ => ?_))
theorem noise_Respond.F_eq (a0_0 : Int) (a0_1 : Int) (a1 : Int) (a2 : Int) : noise_Respond.F a0_0 a0_1 a1 a2 = (noise_loss.F a0_0 a0_1).bind fun t308 => (if t308 = 0 then (if a1 < 1 then (noise_Respond.J0 a1 a2 true a0_0 a0_1) else (if a1 > 4096 then (noise_Respond.J0 a1 a2 true a0_0 a0_1) else (if a2 < 0 then (noise_Respond.J0 a1 a2 true a0_0 a0_1) else (noise_Respond.J0 a1 a2 (decide (a2 ≥ a1)) a0_0 a0_1)))) else (some (([] : List (S64)), t308))) := by
 refine LimIs.out (?_ : LimIs (fun k => (noise_loss.f k a0_0 a0_1).bind fun t308 => (if t308 = 0 then (if a1 < 1 then (noise_Respond.j0 k a1 a2 true a0_0 a0_1) else (if a1 > 4096 then (noise_Respond.j0 k a1 a2 true a0_0 a0_1) else (if a2 < 0 then (noise_Respond.j0 k a1 a2 true a0_0 a0_1) else (noise_Respond.j0 k a1 a2 (decide (a2 ≥ a1)) a0_0 a0_1)))) else (some (([] : List (S64)), t308)))) _)
 repeat' first
  | (with_reducible exact noise_loss.F_is _ _)
  | (with_reducible exact noise_Respond.J0_is _ _ _ _ _)
  | (with_reducible exact LimIs.const _)
  | (with_reducible refine LimIs.ite ?_ ?_)
  | (with_reducible refine LimIs.bind ?_ (fun _ => ?_))
end Go.Proofs.Ytjbgnlhgjgnclaa.PB
end
section
namespace Go.Proofs.Ytjbgnlhgjgnclaa.PB
set_option maxRecDepth 100000
open Go.RowKit Go.Proofs.YtjbgnlhgjgnclaaW.PrintWords Go.Proofs.YtjbgnlhgjgnclaaW.PrintLast Go.Proofs.YtjbgnlhgjgnclaaW.PrintMore
open Go.Proofs.YtjbgnlhgjgnclaaW.EvKit
set_option linter.unusedVariables false
noncomputable def hushref6_Respond.J0 (x1 : Int) (x2 : Int) (x31 : Bool) (x328000 : Int) (x328001 : Int) : Option ((List (S64)) × Int) := lim (fun k => hushref6_Respond.j0 k x1 x2 x31 x328000 x328001)
theorem hushref6_Respond.J0_is (x1 : Int) (x2 : Int) (x31 : Bool) (x328000 : Int) (x328001 : Int) : LimIs (fun k => hushref6_Respond.j0 k x1 x2 x31 x328000 x328001) (hushref6_Respond.J0 x1 x2 x31 x328000 x328001) := ⟨fun k => (hushref6_Respond.mono_l k).1 x1 x2 x31 x328000 x328001, rfl⟩
noncomputable def hushref6_Respond.L0 (x1 : Int) (x2 : Int) (x9 : List (S64)) (x10 : Int) (x328000 : Int) (x328001 : Int) : Option ((List (S64)) × Int) := lim (fun k => hushref6_Respond.l0 k x1 x2 x9 x10 x328000 x328001)
theorem hushref6_Respond.L0_is (x1 : Int) (x2 : Int) (x9 : List (S64)) (x10 : Int) (x328000 : Int) (x328001 : Int) : LimIs (fun k => hushref6_Respond.l0 k x1 x2 x9 x10 x328000 x328001) (hushref6_Respond.L0 x1 x2 x9 x10 x328000 x328001) := ⟨fun k => (hushref6_Respond.mono_l k).2 x1 x2 x9 x10 x328000 x328001, rfl⟩
noncomputable def hushref6_Respond.F (a0_0 : Int) (a0_1 : Int) (a1 : Int) (a2 : Int) : Option ((List (S64)) × Int) := lim (fun k => hushref6_Respond.f k a0_0 a0_1 a1 a2)
theorem hushref6_Respond.F_is (a0_0 : Int) (a0_1 : Int) (a1 : Int) (a2 : Int) : LimIs (fun k => hushref6_Respond.f k a0_0 a0_1 a1 a2) (hushref6_Respond.F a0_0 a0_1 a1 a2) := ⟨fun k => hushref6_Respond.mono a0_0 a0_1 a1 a2 k, rfl⟩
theorem hushref6_Respond.J0_eq (x1 : Int) (x2 : Int) (x31 : Bool) (x328000 : Int) (x328001 : Int) : hushref6_Respond.J0 x1 x2 x31 x328000 x328001 = if x31 = true then (some (([] : List (S64)), 3)) else (if (wrap64 (x328000 + (wrap64 ((wrap64 (x1 - 1)) * x328001)))) > 1073741824 then (some (([] : List (S64)), 4)) else (hushref6_Respond.L0 x1 x2 ([] : List (S64)) 0 x328000 x328001)) := by
 refine LimIs.step' (hushref6_Respond.J0_is x1 x2 x31 x328000 x328001).1 (b := fun k => if x31 = true then (some (([] : List (S64)), 3)) else (if (wrap64 (x328000 + (wrap64 ((wrap64 (x1 - 1)) * x328001)))) > 1073741824 then (some (([] : List (S64)), 4)) else (hushref6_Respond.l0 k x1 x2 ([] : List (S64)) 0 x328000 x328001))) (fun k => by rfl) ?_
 repeat' first
  | (with_reducible exact hushref6_Respond.L0_is _ _ _ _ _ _)
  | (with_reducible exact LimIs.const _)
  | (with_reducible refine LimIs.ite ?_ ?_)
theorem hushref6_Respond.L0_eq (x1 : Int) (x2 : Int) (x9 : List (S64)) (x10 : Int) (x328000 : Int) (x328001 : Int) : hushref6_Respond.L0 x1 x2 x9 x10 x328000 x328001 = if x10 < x1 then (if x10 = x2 then (if x9.length < 4398046511104 then (hushref6_Respond.L0 x1 x2 (x9 ++ [(⟨(([x10] : List Int)), x328000⟩ : S64)]) (wrap64 (x10 + 1)) x328000 x328001) else (none)) else (if x9.length < 4398046511104 then (hushref6_Respond.L0 x1 x2 (x9 ++ [(⟨(([x10] : List Int)), x328001⟩ : S64)]) (wrap64 (x10 + 1)) x328000 x328001) else (none))) else ((hushref2_Make.F x9).bind fun bt341 => (some (bt341.1, bt341.2))) := by
 refine LimIs.step' (hushref6_Respond.L0_is x1 x2 x9 x10 x328000 x328001).1 (b := fun k => if x10 < x1 then (if x10 = x2 then (if x9.length < 4398046511104 then (hushref6_Respond.l0 k x1 x2 (x9 ++ [(⟨(([x10] : List Int)), x328000⟩ : S64)]) (wrap64 (x10 + 1)) x328000 x328001) else (none)) else (if x9.length < 4398046511104 then (hushref6_Respond.l0 k x1 x2 (x9 ++ [(⟨(([x10] : List Int)), x328001⟩ : S64)]) (wrap64 (x10 + 1)) x328000 x328001) else (none))) else ((hushref2_Make.f k x9).bind fun bt341 => (some (bt341.1, bt341.2)))) (fun k => by rfl) ?_
 repeat' first
  | (with_reducible exact hushref6_Respond.L0_is _ _ _ _ _ _)
  | (with_reducible exact hushref2_Make.F_is _)
  | (with_reducible exact LimIs.const _)
  | (with_reducible refine LimIs.ite ?_ ?_)
  | (with_reducible refine LimIs.bind ?_ (fun _ => ?_))
theorem hushref6_Respond.F_eq (a0_0 : Int) (a0_1 : Int) (a1 : Int) (a2 : Int) : hushref6_Respond.F a0_0 a0_1 a1 a2 = (hushref6_Loss.F a0_0 a0_1).bind fun t328 => (if t328 = 0 then (if a1 < 1 then (hushref6_Respond.J0 a1 a2 true a0_0 a0_1) else (if a1 > 4096 then (hushref6_Respond.J0 a1 a2 true a0_0 a0_1) else (if a2 < 0 then (hushref6_Respond.J0 a1 a2 true a0_0 a0_1) else (hushref6_Respond.J0 a1 a2 (decide (a2 ≥ a1)) a0_0 a0_1)))) else (some (([] : List (S64)), t328))) := by
 refine LimIs.out (?_ : LimIs (fun k => (hushref6_Loss.f k a0_0 a0_1).bind fun t328 => (if t328 = 0 then (if a1 < 1 then (hushref6_Respond.j0 k a1 a2 true a0_0 a0_1) else (if a1 > 4096 then (hushref6_Respond.j0 k a1 a2 true a0_0 a0_1) else (if a2 < 0 then (hushref6_Respond.j0 k a1 a2 true a0_0 a0_1) else (hushref6_Respond.j0 k a1 a2 (decide (a2 ≥ a1)) a0_0 a0_1)))) else (some (([] : List (S64)), t328)))) _)
 repeat' first
  | (with_reducible exact hushref6_Loss.F_is _ _)
  | (with_reducible exact hushref6_Respond.J0_is _ _ _ _ _)
  | (with_reducible exact LimIs.const _)
  | (with_reducible refine LimIs.ite ?_ ?_)
  | (with_reducible refine LimIs.bind ?_ (fun _ => ?_))
end Go.Proofs.Ytjbgnlhgjgnclaa.PB
end
section
namespace Go.Proofs.Ytjbgnlhgjgnclaa.DistPure
set_option linter.unusedVariables false
set_option linter.unusedSimpArgs false
open Go.RowKit Go.Proofs.Ytjbgnlhgjgnclaa.PB Go.Proofs.YtjbgnlhgjgnclaaW.PrintWords Go.Proofs.YtjbgnlhgjgnclaaW.PrintLast Go.Proofs.YtjbgnlhgjgnclaaW.PrintMore Go.Proofs.YtjbgnlhgjgnclaaW.EvKit
theorem bd_nil : Bd ([] : List S64) := ⟨by simp, fun p hp => by cases hp⟩
theorem sure_bd (o : List Int) (x : Int) (h : o.length ≤ 1048576) : Bd [(⟨o, x⟩ : S64)] := ⟨by simp, fun p hp => by rw [List.mem_singleton.1 hp]; exact h⟩
theorem clamp {low number : Int} {reach : Nat} : ∃ t : Nat, t ≤ reach ∧ mn (mx number low) (low + (reach : Int)) = low + (t : Int) ∧ (if number < low then low else if number > low + (reach : Int) then low + (reach : Int) else number) = low + (t : Int) := by
 unfold mn mx
 by_cases c1 : number < low
 ·
  exact ⟨0, by omega, by rw [if_pos c1, if_neg (by omega)]; omega, by rw [if_pos c1]; omega⟩
 ·
  by_cases c2 : number > low + (reach : Int)
  ·
   exact ⟨reach, by omega, by rw [if_neg c1, if_pos (by omega)], by rw [if_neg c1, if_pos c2]⟩
  ·
   exact ⟨(number - low).toNat, by omega, by rw [if_neg c1, if_neg (by omega)]; omega, by rw [if_neg c1, if_neg c2]; omega⟩
theorem hide_j0 {u d : Int} (h0 : lossP u d = 0) (low high number : Int) (b : Bool) (hb : b = false → -1073741824 ≤ low ∧ high ≤ 1073741824 ∧ low ≤ high ∧ high - low ≤ 64) :
  ∃ r : List S64 × Int, noise_Hide.J0 low high number b u d = some r ∧ hushref6_Hide.J0 low high number b u d = some r ∧ Bd r.1 := by
 obtain ⟨a, c, rfl, rfl, c1, ca, a2, hg⟩ := loss_ok h0
 cases b with
 | true => exact ⟨([], 3), by rw [noise_Hide.J0_eq, if_pos rfl], by rw [hushref6_Hide.J0_eq, if_pos rfl], bd_nil⟩
 | false =>
  obtain ⟨l0, l1, l2, l3⟩ := hb rfl
  rw [noise_Hide.J0_eq, if_neg (show ¬ (false = true) by decide), hushref6_Hide.J0_eq, if_neg (show ¬ (false = true) by decide)]
  by_cases e : low = high
  ·
   have hs : Bd [(⟨[low], 1⟩ : S64)] := sure_bd _ _ (by simp)
   refine ⟨makeP [⟨[low], 1⟩], ?_, ?_, makeP_bd hs⟩
   ·
    rw [if_pos e, dist_Sure.F_eq, makeF1 _ hs, Option.bind_some, Option.bind_some]
   ·
    rw [if_pos e, rmakeF1 _ hs, Option.bind_some]
  ·
   rw [if_neg e, if_neg e]
   obtain ⟨reach, hr⟩ := Int.eq_ofNat_of_zero_le (show 0 ≤ high - low by omega)
   obtain rfl : high = low + (reach : Int) := by omega
   have ew : wrap64 (low + (reach : Int) - low) = (reach : Int) := by rw [wrap64_of (by omega) (by omega)]; omega
   have ha : 1 ≤ a := by omega
   have e1 := npowF (a := a) (n := reach) ha a2 (by omega)
   have e2 := rpowF (a := a) (n := reach) ha a2 (by omega)
   rw [ew, e1, e2, Option.bind_some, Option.bind_some]
   by_cases c2 : a ^ reach > 1073741824
   ·
    have e3 : capN (a ^ reach) = 1073741825 := by unfold capN; rw [if_pos c2]
    rw [e3, if_pos (by decide), if_pos (by decide)]
    exact ⟨([], 4), by rw [noise_Hide.J1_eq, if_pos rfl], by rw [hushref6_Hide.J1_eq, if_pos rfl], bd_nil⟩
   ·
    rw [capN_small (by omega), if_neg (by omega), if_neg (by omega), Option.bind_some]
    have hm : a ^ reach * (a + c) ≤ 1073741824 * 2147483648 := Nat.mul_le_mul (by omega) (by omega)
    have e4 : wrap64 (((a ^ reach : Nat) : Int) * (wrap64 ((a : Int) + (c : Int)))) = ((a ^ reach * (a + c) : Nat) : Int) := by
     rw [wrap64_of (x := (a : Int) + (c : Int)) (by omega) (by omega), ← Int.natCast_add, ← Int.natCast_mul, wrap64_of (by omega) (by omega)]
    rw [e4]
    by_cases c3 : ((a ^ reach * (a + c) : Nat) : Int) > 1073741824
    ·
     rw [decide_eq_true c3]
     exact ⟨([], 4), by rw [noise_Hide.J1_eq, if_pos rfl], by rw [hushref6_Hide.J1_eq, if_pos rfl], bd_nil⟩
    ·
     rw [decide_eq_false c3]
     have hok : Ok a c reach := ⟨c1, ca, a2, by omega, by omega, by omega⟩
     obtain ⟨t, ht, et, et'⟩ := clamp (low := low) (number := number) (reach := reach)
     have hp := hidL_bd low a c reach t (reach + 1) (by omega)
     have hl0 : hidL low a c reach t 0 = [] := rfl
     have L1 := hide_loop low l0 (by omega) a c reach t (by omega) (reach + 1) 0 (by omega)
     have L2 := rhide_loop hok t ht low l0 (by omega) (reach + 1) 0 (by omega)
     rw [hl0] at L1 L2
     have ez : low + ((0 : Nat) : Int) = low := by omega
     rw [ez] at L2
     refine ⟨makeP (hidL low a c reach t (reach + 1)), ?_, ?_, makeP_bd hp⟩
     ·
      have ew2 : wrap64 (low + (t : Int) - low) = (t : Int) := by rw [wrap64_of (by omega) (by omega)]; omega
      rw [noise_Hide.J1_eq, if_neg (by decide), et, ew, ew2, waysF hok t ht, Option.bind_some, wL_len]
      exact L1
     ·
      rw [hushref6_Hide.J1_eq, if_neg (by decide)]
      by_cases d1 : number < low
      ·
       rw [if_pos d1] at et'
       rw [if_pos d1, hushref6_Hide.J2_eq, if_neg (by omega), hushref6_Hide.J3_eq]
       rw [← et'] at L2
       exact L2
      ·
       rw [if_neg d1] at et'
       rw [if_neg d1, hushref6_Hide.J2_eq]
       by_cases d2 : number > low + (reach : Int)
       ·
        rw [if_pos d2] at et'
        rw [if_pos d2, hushref6_Hide.J3_eq]
        rw [← et'] at L2
        exact L2
       ·
        rw [if_neg d2] at et'
        rw [if_neg d2, hushref6_Hide.J3_eq]
        rw [← et'] at L2
        exact L2
theorem hide_both {u d : Int} (hu : I64 u) (hd : I64 d) (low high number : Int) (hl : I64 low) (hh : I64 high) :
  ∃ r : List S64 × Int, noise_Hide.F u d low high number = some r ∧ hushref6_Hide.F u d low high number = some r ∧ Bd r.1 := by
 obtain ⟨e1, e2⟩ := lossF hu hd
 obtain ⟨l0, l1⟩ := hl
 obtain ⟨h0, h1⟩ := hh
 rw [noise_Hide.F_eq, e1, Option.bind_some, hushref6_Hide.F_eq, e2, Option.bind_some]
 by_cases c : lossP u d = 0
 ·
  rw [if_pos c, if_pos c]
  by_cases c1 : low < -1073741824
  ·
   rw [if_pos c1, if_pos c1]
   exact hide_j0 c low high number true (fun h => by cases h)
  ·
   rw [if_neg c1, if_neg c1]
   by_cases c2 : high > 1073741824
   ·
    rw [if_pos c2, if_pos c2]
    exact hide_j0 c low high number true (fun h => by cases h)
   ·
    rw [if_neg c2, if_neg c2]
    by_cases c3 : low > high
    ·
     rw [if_pos c3, if_pos c3]
     exact hide_j0 c low high number true (fun h => by cases h)
    ·
     rw [if_neg c3, if_neg (show ¬ high < low by omega)]
     have ed : decide (high > wrap64 (low + 64)) = decide (wrap64 (high - low) > 64) := by
      rw [wrap64_of (x := low + 64) (by omega) (by omega), wrap64_of (by omega) (by omega), decide_eq_decide]; omega
     rw [ed]
     refine hide_j0 c low high number _ (fun h => ?_)
     rw [wrap64_of (by omega) (by omega)] at h
     have := of_decide_eq_false h
     omega
 ·
  rw [if_neg c, if_neg c]
  exact ⟨([], lossP u d), rfl, rfl, bd_nil⟩
theorem hideall_loop {u d : Int} (hu : I64 u) (hd : I64 d) (low high : Int) (hl : I64 low) (hh : I64 high) (ns : List Int) (hn : ns.length ≤ 1048576) : ∀ (m i : Nat) (acc : List (List S64)), i + m = ns.length → acc.length = i → (∀ x ∈ acc, Bd x) →
  ∃ r : List (List S64) × Int, noise_HideAll.L0 low high acc ns (ns.length : Int) (i : Int) u d = some r ∧ hushref6_HideAll.L0 low high acc ns (ns.length : Int) (i : Int) u d = some r ∧ r.1.length ≤ 1048576 ∧ ∀ x ∈ r.1, Bd x := by
 intro m
 induction m with
 | zero =>
  intro i acc hi ha hb
  exact ⟨(acc, 0), by rw [noise_HideAll.L0_eq, if_neg (by omega)], by rw [hushref6_HideAll.L0_eq, if_neg (by omega)], by show acc.length ≤ 1048576; omega, hb⟩
 | succ m ih =>
  intro i acc hi ha hb
  obtain ⟨r, h1, h2, h3⟩ := hide_both hu hd low high (rd ns (i : Int)) hl hh
  have g1 : noise_HideAll.L0 low high acc ns (ns.length : Int) (i : Int) u d = if r.2 = 0 then noise_HideAll.L0 low high (acc ++ [r.1]) ns (ns.length : Int) ((i + 1 : Nat) : Int) u d else some ([], r.2) := by
   rw [noise_HideAll.L0_eq, if_pos (by omega), if_pos (by omega), if_pos (by omega), h1, Option.bind_some]
   by_cases c : r.2 = 0
   ·
    rw [if_pos c, if_pos c, if_pos (by omega), w1 (by omega)]
   ·
    rw [if_neg c, if_neg c]
  have g2 : hushref6_HideAll.L0 low high acc ns (ns.length : Int) (i : Int) u d = if r.2 = 0 then hushref6_HideAll.L0 low high (acc ++ [r.1]) ns (ns.length : Int) ((i + 1 : Nat) : Int) u d else some ([], r.2) := by
   rw [hushref6_HideAll.L0_eq, if_pos (by omega), if_pos (by omega), if_pos (by omega), h2, Option.bind_some]
   by_cases c : r.2 = 0
   ·
    rw [if_pos c, if_pos c, if_pos (by omega), w1 (by omega)]
   ·
    rw [if_neg c, if_neg c]
  rw [g1, g2]
  by_cases c : r.2 = 0
  ·
   rw [if_pos c, if_pos c]
   refine ih (i + 1) (acc ++ [r.1]) (by omega) (by simp [ha]) (fun x hx => ?_)
   rcases List.mem_append.1 hx with h | h
   ·
    exact hb x h
   ·
    rw [List.mem_singleton.1 h]; exact h3
  ·
   rw [if_neg c, if_neg c]
   exact ⟨([], r.2), rfl, rfl, by simp, fun x hx => by cases hx⟩
theorem hideall_both {u d : Int} (hu : I64 u) (hd : I64 d) (low high : Int) (hl : I64 low) (hh : I64 high) (ns : List Int) (hn : ns.length ≤ 1048576) :
  ∃ r : List (List S64) × Int, noise_HideAll.F u d low high ns = some r ∧ hushref6_HideAll.F u d low high ns = some r ∧ r.1.length ≤ 1048576 ∧ ∀ x ∈ r.1, Bd x := by
 obtain ⟨r, h1, h2, h3, h4⟩ := hideall_loop hu hd low high hl hh ns hn ns.length 0 [] (by omega) rfl (fun x hx => by cases hx)
 exact ⟨r, by rw [noise_HideAll.F_eq]; exact h1, by rw [hushref6_HideAll.F_eq]; exact h2, h3, h4⟩
theorem sameds_loop (l : List (List S64)) (hl : l.length ≤ 1048576) (hb : ∀ x ∈ l, Bd x) : ∀ (m i : Nat), i + m = l.length → hushref6_SameDists.L0 l l (l.length : Int) (i : Int) = some true := by
 intro m
 induction m with
 | zero =>
  intro i hi
  rw [hushref6_SameDists.L0_eq, if_neg (by omega)]
 | succ m ih =>
  intro i hi
  have hlt : i < l.length := by omega
  have e : rd_L3 l (i : Int) = l[i] := by
   unfold rd_L3
   rw [Int.toNat_natCast, List.getD_eq_getElem?_getD, List.getElem?_eq_getElem hlt]; rfl
  have hx := hb _ (List.getElem_mem hlt)
  rw [hushref6_SameDists.L0_eq, if_pos (by omega), if_pos (by omega), if_pos (by omega), if_pos (by omega), e, rsameF _ _ hx hx, Option.bind_some, if_pos (by simp), w1 (by omega)]
  exact ih (i + 1) (by omega)
theorem sameds (l : List (List S64)) (hl : l.length ≤ 1048576) (hb : ∀ x ∈ l, Bd x) : hushref6_SameDists.F l l = some true := by
 rw [hushref6_SameDists.F_eq, if_pos rfl]
 exact sameds_loop l hl hb l.length 0 (by omega)
theorem lost_both {u d : Int} (hu : I64 u) (hd : I64 d) (n : Int) : ∃ r : Int × Int × Int, noise_Lost.F u d n = some r ∧ hushref6_Lost.F u d n = some r := by
 obtain ⟨e1, e2⟩ := lossF hu hd
 rw [noise_Lost.F_eq, e1, Option.bind_some, hushref6_Lost.F_eq, e2, Option.bind_some]
 by_cases c : lossP u d = 0
 ·
  obtain ⟨r, h1, h2⟩ := NoisePow.powF u d n hu hd
  rw [if_pos c, if_pos c, h1, h2, Option.bind_some]
  exact ⟨_, rfl, rfl⟩
 ·
  rw [if_neg c, if_neg c]
  exact ⟨_, rfl, rfl⟩
def resL (u d : Int) (truth n : Nat) : List S64 := (List.range n).map (fun (z : Nat) => (⟨[(z : Int)], if z = truth then u else d⟩ : S64))
theorem resL_succ (u d : Int) (truth n : Nat) : resL u d truth (n + 1) = resL u d truth n ++ [⟨[(n : Int)], if n = truth then u else d⟩] := by
 unfold resL; rw [List.range_succ, List.map_append]; rfl
theorem resL_len (u d : Int) (truth n : Nat) : (resL u d truth n).length = n := by unfold resL; simp
theorem resL_bd (u d : Int) (truth n : Nat) (hn : n ≤ 1048576) : Bd (resL u d truth n) := by
 refine ⟨by rw [resL_len]; exact hn, fun p hp => ?_⟩
 unfold resL at hp
 obtain ⟨z, _, rfl⟩ := List.mem_map.1 hp
 simp
theorem resp_loop (u d : Int) (truth many : Nat) (hm : many ≤ 4096) (ht : truth < many) (W : List Int) (hW : W = (List.replicate many d).set truth u) : ∀ (m i : Nat), i + m = many →
  noise_Respond.L0 (resL u d truth i) W (many : Int) (i : Int) = some (makeP (resL u d truth many)) := by
 have hl : W.length = many := by rw [hW]; simp
 intro m
 induction m with
 | zero =>
  intro i hi
  obtain rfl : i = many := by omega
  rw [noise_Respond.L0_eq, if_neg (by omega), makeF1 _ (resL_bd u d truth i (by omega)), Option.bind_some]
 | succ m ih =>
  intro i hi
  have hlen := resL_len u d truth i
  have hrd : rd W (i : Int) = if i = truth then u else d := by
   rw [rd_nat, hW, List.getD_eq_getElem?_getD, List.getElem?_set]
   by_cases c : truth = i
   ·
    rw [if_pos c, if_pos (by simpa using ht), if_pos c.symm]; rfl
   ·
    rw [if_neg c, if_neg (fun h => c h.symm), List.getElem?_replicate, if_pos (by omega)]; rfl
  rw [noise_Respond.L0_eq, if_pos (by omega), if_pos (by omega), if_pos (by omega), if_pos (by omega), hrd, w1 (by omega), ← resL_succ]
  exact ih (i + 1) (by omega)
theorem rresp_loop (u d : Int) (truth many : Nat) (hm : many ≤ 4096) : ∀ (m i : Nat), i + m = many →
  hushref6_Respond.L0 (many : Int) (truth : Int) (resL u d truth i) (i : Int) u d = some (makeP (resL u d truth many)) := by
 intro m
 induction m with
 | zero =>
  intro i hi
  obtain rfl : i = many := by omega
  rw [hushref6_Respond.L0_eq, if_neg (by omega), rmakeF1 _ (resL_bd u d truth i (by omega)), Option.bind_some]
 | succ m ih =>
  intro i hi
  have hlen := resL_len u d truth i
  have hs := resL_succ u d truth i
  rw [hushref6_Respond.L0_eq, if_pos (by omega), w1 (by omega)]
  by_cases c : i = truth
  ·
   rw [if_pos c] at hs
   rw [if_pos (by omega), if_pos (by omega), ← hs]
   exact ih (i + 1) (by omega)
  ·
   rw [if_neg c] at hs
   rw [if_neg (by omega), if_pos (by omega), ← hs]
   exact ih (i + 1) (by omega)
theorem resp_j0 (u d many truth : Int) (b : Bool) (hb : b = false → 1 ≤ many ∧ many ≤ 4096 ∧ 0 ≤ truth ∧ truth < many) :
  ∃ r : List S64 × Int, noise_Respond.J0 many truth b u d = some r ∧ hushref6_Respond.J0 many truth b u d = some r ∧ Bd r.1 := by
 cases b with
 | true => exact ⟨([], 3), by rw [noise_Respond.J0_eq, if_pos rfl], by rw [hushref6_Respond.J0_eq, if_pos rfl], bd_nil⟩
 | false =>
  obtain ⟨m1, m2, t0, t1⟩ := hb rfl
  obtain ⟨m, rfl⟩ := Int.eq_ofNat_of_zero_le (show 0 ≤ many by omega)
  obtain ⟨t, rfl⟩ := Int.eq_ofNat_of_zero_le t0
  rw [noise_Respond.J0_eq, if_neg (show ¬ (false = true) by decide), hushref6_Respond.J0_eq, if_neg (show ¬ (false = true) by decide)]
  by_cases c : wrap64 (u + wrap64 (wrap64 ((m : Int) - 1) * d)) > 1073741824
  ·
   rw [if_pos c, if_pos c]
   exact ⟨([], 4), rfl, rfl, bd_nil⟩
  ·
   rw [if_neg c, if_neg c]
   have e : slices_Repeat_int_int.f ([d] : List Int) (m : Int) = some (List.replicate m d) := by
    unfold slices_Repeat_int_int.f
    rw [if_pos ⟨rfl, by omega, by omega⟩, Int.toNat_natCast]; rfl
   have hl : (List.replicate m d).length = m := by simp
   rw [e, Option.bind_some, if_pos t0, hl, if_pos (by omega), Int.toNat_natCast]
   exact ⟨_, resp_loop u d t m (by omega) (by omega) _ rfl m 0 (by omega), rresp_loop u d t m (by omega) m 0 (by omega), makeP_bd (resL_bd u d t m (by omega))⟩
theorem resp_both {u d : Int} (hu : I64 u) (hd : I64 d) (many truth : Int) :
  ∃ r : List S64 × Int, noise_Respond.F u d many truth = some r ∧ hushref6_Respond.F u d many truth = some r ∧ Bd r.1 := by
 obtain ⟨e1, e2⟩ := lossF hu hd
 rw [noise_Respond.F_eq, e1, Option.bind_some, hushref6_Respond.F_eq, e2, Option.bind_some]
 by_cases c : lossP u d = 0
 ·
  rw [if_pos c, if_pos c]
  by_cases c1 : many < 1
  ·
   rw [if_pos c1, if_pos c1]
   exact resp_j0 u d many truth true (fun h => by cases h)
  ·
   rw [if_neg c1, if_neg c1]
   by_cases c2 : many > 4096
   ·
    rw [if_pos c2, if_pos c2]
    exact resp_j0 u d many truth true (fun h => by cases h)
   ·
    rw [if_neg c2, if_neg c2]
    by_cases c3 : truth < 0
    ·
     rw [if_pos c3, if_pos c3]
     exact resp_j0 u d many truth true (fun h => by cases h)
    ·
     rw [if_neg c3, if_neg c3]
     refine resp_j0 u d many truth _ (fun h => ?_)
     have := of_decide_eq_false h
     omega
 ·
  rw [if_neg c, if_neg c]
  exact ⟨([], lossP u d), rfl, rfl, bd_nil⟩
end Go.Proofs.Ytjbgnlhgjgnclaa.DistPure
end
section
namespace Go.Proofs.Ytjbgnlhgjgnclaa.PB
set_option maxRecDepth 100000
open Go.RowKit Go.Proofs.YtjbgnlhgjgnclaaW.PrintWords Go.Proofs.YtjbgnlhgjgnclaaW.PrintLast Go.Proofs.YtjbgnlhgjgnclaaW.PrintMore
open Go.Proofs.YtjbgnlhgjgnclaaW.EvKit
set_option linter.unusedVariables false
noncomputable def hushlaw6_NoiseHides.L0 (x1 : Int) (x2 : Int) (x3 : List Int) (x4 : Int) (x5 : Int) (x30 : List Int) (x31 : Int) (x32 : Int) (x346000 : Int) (x346001 : Int) : Option (Bool) := lim (fun k => hushlaw6_NoiseHides.l0 k x1 x2 x3 x4 x5 x30 x31 x32 x346000 x346001)
theorem hushlaw6_NoiseHides.L0_is (x1 : Int) (x2 : Int) (x3 : List Int) (x4 : Int) (x5 : Int) (x30 : List Int) (x31 : Int) (x32 : Int) (x346000 : Int) (x346001 : Int) : LimIs (fun k => hushlaw6_NoiseHides.l0 k x1 x2 x3 x4 x5 x30 x31 x32 x346000 x346001) (hushlaw6_NoiseHides.L0 x1 x2 x3 x4 x5 x30 x31 x32 x346000 x346001) := ⟨fun k => (hushlaw6_NoiseHides.mono_l k).1 x1 x2 x3 x4 x5 x30 x31 x32 x346000 x346001, rfl⟩
noncomputable def hushlaw6_NoiseHides.J1 (x4 : Int) (x5 : Int) (x86 : Bool) (x346000 : Int) (x346001 : Int) : Option (Bool) := lim (fun k => hushlaw6_NoiseHides.j1 k x4 x5 x86 x346000 x346001)
theorem hushlaw6_NoiseHides.J1_is (x4 : Int) (x5 : Int) (x86 : Bool) (x346000 : Int) (x346001 : Int) : LimIs (fun k => hushlaw6_NoiseHides.j1 k x4 x5 x86 x346000 x346001) (hushlaw6_NoiseHides.J1 x4 x5 x86 x346000 x346001) := ⟨fun k => (hushlaw6_NoiseHides.mono_l k).2.1 x4 x5 x86 x346000 x346001, rfl⟩
noncomputable def hushlaw6_NoiseHides.J2 (x4 : Int) (x5 : Int) (x106 : Bool) (x346000 : Int) (x346001 : Int) : Option (Bool) := lim (fun k => hushlaw6_NoiseHides.j2 k x4 x5 x106 x346000 x346001)
theorem hushlaw6_NoiseHides.J2_is (x4 : Int) (x5 : Int) (x106 : Bool) (x346000 : Int) (x346001 : Int) : LimIs (fun k => hushlaw6_NoiseHides.j2 k x4 x5 x106 x346000 x346001) (hushlaw6_NoiseHides.J2 x4 x5 x106 x346000 x346001) := ⟨fun k => (hushlaw6_NoiseHides.mono_l k).2.2 x4 x5 x106 x346000 x346001, rfl⟩
noncomputable def hushlaw6_NoiseHides.F (a0_0 : Int) (a0_1 : Int) (a1 : Int) (a2 : Int) (l3 : List Int) (a4 : Int) (a5 : Int) : Option (Bool) := lim (fun k => hushlaw6_NoiseHides.f k a0_0 a0_1 a1 a2 l3 a4 a5)
theorem hushlaw6_NoiseHides.F_is (a0_0 : Int) (a0_1 : Int) (a1 : Int) (a2 : Int) (l3 : List Int) (a4 : Int) (a5 : Int) : LimIs (fun k => hushlaw6_NoiseHides.f k a0_0 a0_1 a1 a2 l3 a4 a5) (hushlaw6_NoiseHides.F a0_0 a0_1 a1 a2 l3 a4 a5) := ⟨fun k => hushlaw6_NoiseHides.mono a0_0 a0_1 a1 a2 l3 a4 a5 k, rfl⟩
theorem hushlaw6_NoiseHides.L0_eq (x1 : Int) (x2 : Int) (x3 : List Int) (x4 : Int) (x5 : Int) (x30 : List Int) (x31 : Int) (x32 : Int) (x346000 : Int) (x346001 : Int) : hushlaw6_NoiseHides.L0 x1 x2 x3 x4 x5 x30 x31 x32 x346000 x346001 = if x32 < x31 then (if 0 ≤ x32 then (if x32 < (x30.length : Int) then ((noise_Hide.F x346000 x346001 x1 x2 (rd x30 x32)).bind fun bt353 => ((hushref6_Hide.F x346000 x346001 x1 x2 (rd x30 x32)).bind fun bt357 => ((hushref2_Same.F bt353.1 bt357.1).bind fun t361 => (if t361 = true then (if bt353.2 = bt357.2 then (hushlaw6_NoiseHides.L0 x1 x2 x3 x4 x5 x30 x31 (wrap64 (x32 + 1)) x346000 x346001) else (some false)) else (some false))))) else (none)) else (none)) else ((noise_HideAll.F x346000 x346001 x1 x2 x3).bind fun bt362 => ((hushref6_HideAll.F x346000 x346001 x1 x2 x3).bind fun bt366 => ((hushref6_SameDists.F bt362.1 bt366.1).bind fun t370 => (if t370 = true then (hushlaw6_NoiseHides.J1 x4 x5 (bt362.2 != bt366.2) x346000 x346001) else (hushlaw6_NoiseHides.J1 x4 x5 true x346000 x346001))))) := by
 refine LimIs.step' (hushlaw6_NoiseHides.L0_is x1 x2 x3 x4 x5 x30 x31 x32 x346000 x346001).1 (b := fun k => if x32 < x31 then (if 0 ≤ x32 then (if x32 < (x30.length : Int) then ((noise_Hide.f k x346000 x346001 x1 x2 (rd x30 x32)).bind fun bt353 => ((hushref6_Hide.f k x346000 x346001 x1 x2 (rd x30 x32)).bind fun bt357 => ((hushref2_Same.f k bt353.1 bt357.1).bind fun t361 => (if t361 = true then (if bt353.2 = bt357.2 then (hushlaw6_NoiseHides.l0 k x1 x2 x3 x4 x5 x30 x31 (wrap64 (x32 + 1)) x346000 x346001) else (some false)) else (some false))))) else (none)) else (none)) else ((noise_HideAll.f k x346000 x346001 x1 x2 x3).bind fun bt362 => ((hushref6_HideAll.f k x346000 x346001 x1 x2 x3).bind fun bt366 => ((hushref6_SameDists.f k bt362.1 bt366.1).bind fun t370 => (if t370 = true then (hushlaw6_NoiseHides.j1 k x4 x5 (bt362.2 != bt366.2) x346000 x346001) else (hushlaw6_NoiseHides.j1 k x4 x5 true x346000 x346001)))))) (fun k => by rfl) ?_
 repeat' first
  | (with_reducible exact noise_Hide.F_is _ _ _ _ _)
  | (with_reducible exact hushref6_Hide.F_is _ _ _ _ _)
  | (with_reducible exact hushref2_Same.F_is _ _)
  | (with_reducible exact hushlaw6_NoiseHides.L0_is _ _ _ _ _ _ _ _ _ _)
  | (with_reducible exact noise_HideAll.F_is _ _ _ _ _)
  | (with_reducible exact hushref6_HideAll.F_is _ _ _ _ _)
  | (with_reducible exact hushref6_SameDists.F_is _ _)
  | (with_reducible exact hushlaw6_NoiseHides.J1_is _ _ _ _ _)
  | (with_reducible exact LimIs.const _)
  | (with_reducible refine LimIs.ite ?_ ?_)
  | (with_reducible refine LimIs.bind ?_ (fun _ => ?_))
theorem hushlaw6_NoiseHides.J1_eq (x4 : Int) (x5 : Int) (x86 : Bool) (x346000 : Int) (x346001 : Int) : hushlaw6_NoiseHides.J1 x4 x5 x86 x346000 x346001 = if x86 = true then (some false) else ((noise_Lost.F x346000 x346001 x4).bind fun bt371 => ((hushref6_Lost.F x346000 x346001 x4).bind fun bt375 => (if (!(bt371.1 == bt375.1) || (!(bt371.2.1 == bt375.2.1))) = true then (hushlaw6_NoiseHides.J2 x4 x5 true x346000 x346001) else (hushlaw6_NoiseHides.J2 x4 x5 (bt371.2.2 != bt375.2.2) x346000 x346001)))) := by
 refine LimIs.step' (hushlaw6_NoiseHides.J1_is x4 x5 x86 x346000 x346001).1 (b := fun k => if x86 = true then (some false) else ((noise_Lost.f k x346000 x346001 x4).bind fun bt371 => ((hushref6_Lost.f k x346000 x346001 x4).bind fun bt375 => (if (!(bt371.1 == bt375.1) || (!(bt371.2.1 == bt375.2.1))) = true then (hushlaw6_NoiseHides.j2 k x4 x5 true x346000 x346001) else (hushlaw6_NoiseHides.j2 k x4 x5 (bt371.2.2 != bt375.2.2) x346000 x346001))))) (fun k => by rfl) ?_
 repeat' first
  | (with_reducible exact noise_Lost.F_is _ _ _)
  | (with_reducible exact hushref6_Lost.F_is _ _ _)
  | (with_reducible exact hushlaw6_NoiseHides.J2_is _ _ _ _ _)
  | (with_reducible exact LimIs.const _)
  | (with_reducible refine LimIs.ite ?_ ?_)
  | (with_reducible refine LimIs.bind ?_ (fun _ => ?_))
theorem hushlaw6_NoiseHides.J2_eq (x4 : Int) (x5 : Int) (x106 : Bool) (x346000 : Int) (x346001 : Int) : hushlaw6_NoiseHides.J2 x4 x5 x106 x346000 x346001 = if x106 = true then (some false) else ((noise_Respond.F x346000 x346001 x4 x5).bind fun bt379 => ((hushref6_Respond.F x346000 x346001 x4 x5).bind fun bt383 => ((hushref2_Same.F bt379.1 bt383.1).bind fun t387 => (if t387 = true then (some (bt379.2 == bt383.2)) else (some false))))) := by
 refine LimIs.step' (hushlaw6_NoiseHides.J2_is x4 x5 x106 x346000 x346001).1 (b := fun k => if x106 = true then (some false) else ((noise_Respond.f k x346000 x346001 x4 x5).bind fun bt379 => ((hushref6_Respond.f k x346000 x346001 x4 x5).bind fun bt383 => ((hushref2_Same.f k bt379.1 bt383.1).bind fun t387 => (if t387 = true then (some (bt379.2 == bt383.2)) else (some false)))))) (fun k => by rfl) ?_
 repeat' first
  | (with_reducible exact noise_Respond.F_is _ _ _ _)
  | (with_reducible exact hushref6_Respond.F_is _ _ _ _)
  | (with_reducible exact hushref2_Same.F_is _ _)
  | (with_reducible exact LimIs.const _)
  | (with_reducible refine LimIs.ite ?_ ?_)
  | (with_reducible refine LimIs.bind ?_ (fun _ => ?_))
theorem hushlaw6_NoiseHides.F_eq (a0_0 : Int) (a0_1 : Int) (a1 : Int) (a2 : Int) (l3 : List Int) (a4 : Int) (a5 : Int) : hushlaw6_NoiseHides.F a0_0 a0_1 a1 a2 l3 a4 a5 = (some (([a5] : List Int) : List Int)).bind fun y346 => (if y346.length + l3.length < 17592186044416 then ((some (y346 ++ l3 : List Int)).bind fun y349 => (hushlaw6_NoiseHides.L0 a1 a2 l3 a4 a5 y349 (y349.length : Int) 0 a0_0 a0_1)) else (none)) := by
 refine LimIs.out (?_ : LimIs (fun k => (some (([a5] : List Int) : List Int)).bind fun y346 => (if y346.length + l3.length < 17592186044416 then ((some (y346 ++ l3 : List Int)).bind fun y349 => (hushlaw6_NoiseHides.l0 k a1 a2 l3 a4 a5 y349 (y349.length : Int) 0 a0_0 a0_1)) else (none))) _)
 repeat' first
  | (with_reducible exact hushlaw6_NoiseHides.L0_is _ _ _ _ _ _ _ _ _ _)
  | (with_reducible exact LimIs.const _)
  | (with_reducible refine LimIs.ite ?_ ?_)
  | (with_reducible refine LimIs.bind ?_ (fun _ => ?_))
end Go.Proofs.Ytjbgnlhgjgnclaa.PB
end
section
namespace Go.Proofs.Ytjbgnlhgjgnclaa.DistPure
set_option linter.unusedVariables false
set_option linter.unusedSimpArgs false
open Go.RowKit Go.Proofs.Ytjbgnlhgjgnclaa.PB Go.Proofs.YtjbgnlhgjgnclaaW.PrintWords Go.Proofs.YtjbgnlhgjgnclaaW.PrintLast Go.Proofs.YtjbgnlhgjgnclaaW.PrintMore Go.Proofs.YtjbgnlhgjgnclaaW.EvKit
theorem ones (l : List Int) : (l.map (fun _ => 1)).sum = l.length := by
 induction l with
 | nil => rfl
 | cons a l ih => rw [List.map_cons, List.sum_cons, ih, List.length_cons]; omega
theorem hides_j1 {u d : Int} (hu : I64 u) (hd : I64 d) (many truth : Int) : hushlaw6_NoiseHides.J1 many truth false u d = some true := by
 obtain ⟨r, h1, h2⟩ := lost_both hu hd many
 obtain ⟨q, g1, g2, g3⟩ := resp_both hu hd many truth
 rw [hushlaw6_NoiseHides.J1_eq, if_neg (by decide), h1, Option.bind_some, h2, Option.bind_some, if_neg (by simp), bne_self_eq_false]
 rw [hushlaw6_NoiseHides.J2_eq, if_neg (by decide), g1, Option.bind_some, g2, Option.bind_some, rsameF _ _ g3 g3, Option.bind_some, if_pos (by simp), beq_self_eq_true]
theorem hides_loop {u d : Int} (hu : I64 u) (hd : I64 d) (low high : Int) (hl : I64 low) (hh : I64 high) (ns : List Int) (hn : ns.length ≤ 1048576) (many truth : Int) (l : List Int) (hll : l.length ≤ 1048577) : ∀ (m i : Nat), i + m = l.length →
  hushlaw6_NoiseHides.L0 low high ns many truth l (l.length : Int) (i : Int) u d = some true := by
 intro m
 induction m with
 | zero =>
  intro i hi
  obtain ⟨r, h1, h2, h3, h4⟩ := hideall_both hu hd low high hl hh ns hn
  rw [hushlaw6_NoiseHides.L0_eq, if_neg (by omega), h1, Option.bind_some, h2, Option.bind_some, sameds _ h3 h4, Option.bind_some, if_pos rfl, bne_self_eq_false]
  exact hides_j1 hu hd many truth
 | succ m ih =>
  intro i hi
  obtain ⟨r, h1, h2, h3⟩ := hide_both hu hd low high (rd l (i : Int)) hl hh
  rw [hushlaw6_NoiseHides.L0_eq, if_pos (by omega), if_pos (by omega), if_pos (by omega), h1, Option.bind_some, h2, Option.bind_some, rsameF _ _ h3 h3, Option.bind_some, if_pos (by simp), if_pos rfl, w1 (by omega)]
  exact ih (i + 1) (by omega)
end Go.Proofs.Ytjbgnlhgjgnclaa.DistPure
namespace Go.Proofs.Ytjbgnlhgjgnclaa.Pure
open Go.RowKit Go.Proofs.Ytjbgnlhgjgnclaa.PB Go.Proofs.YtjbgnlhgjgnclaaW.PrintWords Go.Proofs.YtjbgnlhgjgnclaaW.PrintLast Go.Proofs.YtjbgnlhgjgnclaaW.PrintMore Go.Proofs.YtjbgnlhgjgnclaaW.EvKit Go.Proofs.Ytjbgnlhgjgnclaa.DistPure
theorem NoiseHides : hushlaw6_NoiseHides.Pure := by
 intro p0 p1 p2 p3 p4 p5 h0 h1 h2 h3 h4 h5 hb
 have b3 := DistPure.ones p3
 have hn : p3.length ≤ 1048576 := by omega
 clear hb b3
 have hu : I64 p0.f0 := wf64 h0.1
 have hd : I64 p0.f1 := wf64 h0.2
 have hl : I64 p1 := wf64 h1
 have hh : I64 p2 := wf64 h2
 refine (hushlaw6_NoiseHides.F_is p0.f0 p0.f1 p1 p2 p3 p4 p5).rounds ?_
 have hlen : ([p5] : List Int).length = 1 := rfl
 rw [hushlaw6_NoiseHides.F_eq, Option.bind_some, if_pos (by omega), Option.bind_some]
 exact hides_loop hu hd p1 p2 hl hh p3 hn p4 p5 ([p5] ++ p3) (by rw [List.length_append]; omega) ([p5] ++ p3).length 0 (by omega)
end Go.Proofs.Ytjbgnlhgjgnclaa.Pure
end

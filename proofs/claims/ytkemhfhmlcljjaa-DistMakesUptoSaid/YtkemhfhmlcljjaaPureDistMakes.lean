/- The pure texts of this claim, its functions behind all rounds among them, and small steps. Conditions stand in each theorem. -/
import Derived.Test.YtkemhfhmlcljjaaPBx2
import Derived.Test.YtkemhfhmlcljjaaLim
import Derived.Test.YtkemhfhmlcljjaaPBx0
import Derived.Test.YtkemhfhmlcljjaaPBx4
import Derived.Test.YtkemhfhmlcljjaaPBx3
import Derived.Test.YtkemhfhmlcljjaaPBx6
import Derived.Test.YtkemhfhmlcljjaaPBx7
import Derived.Test.YtkemhfhmlcljjaaPBx13
import Derived.Test.YtkemhfhmlcljjaaPBx12
import Derived.Test.YtkemhfhmlcljjaaPBx9
import Derived.Test.YtkemhfhmlcljjaaPBx8
import Derived.Test.YtkemhfhmlcljjaaPBx5
import Derived.Test.YtkemhfhmlcljjaaPBx10
import Derived.Test.YtkemhfhmlcljjaaPBx11
import Derived.Test.YtkemhfhmlcljjaaPBx14
import Derived.Test.YtkemhfhmlcljjaaPBx16
import Derived.Test.YtkemhfhmlcljjaaPBx18
import Derived.Test.YtkemhfhmlcljjaaPBx1
import Derived.Test.YtkemhfhmlcljjaaPBx15
import Derived.Test.YtkemhfhmlcljjaaPBx17
section
namespace Go.Proofs.Ytkemhfhmlcljjaa.PB
open Go.RowKit Go.Proofs.YtkemhfhmlcljjaaW.PrintWords Go.Proofs.YtkemhfhmlcljjaaW.PrintLast Go.Proofs.YtkemhfhmlcljjaaW.PrintMore
open Go.Proofs.YtkemhfhmlcljjaaW.EvKit
set_option linter.unusedVariables false
end Go.Proofs.Ytkemhfhmlcljjaa.PB
end
section
namespace Go.Proofs.Ytkemhfhmlcljjaa.PB
open Go.RowKit Go.Proofs.YtkemhfhmlcljjaaW.PrintWords Go.Proofs.YtkemhfhmlcljjaaW.PrintLast Go.Proofs.YtkemhfhmlcljjaaW.PrintMore
open Go.Proofs.YtkemhfhmlcljjaaW.EvKit
set_option linter.unusedVariables false
noncomputable def slices_IndexFunc_int_int.L0 (x0 : List Int) (x7 : Int) (x8 : Int) : Option (Int) := lim (fun k => slices_IndexFunc_int_int.l0 k x0 x7 x8)
theorem slices_IndexFunc_int_int.L0_is (x0 : List Int) (x7 : Int) (x8 : Int) : LimIs (fun k => slices_IndexFunc_int_int.l0 k x0 x7 x8) (slices_IndexFunc_int_int.L0 x0 x7 x8) := ⟨fun k => (slices_IndexFunc_int_int.mono_l k) x0 x7 x8, rfl⟩
noncomputable def slices_Equal_int_int.L0 (x0 : List Int) (x1 : List Int) (x12 : Int) (x13 : Int) : Option (Bool) := lim (fun k => slices_Equal_int_int.l0 k x0 x1 x12 x13)
theorem slices_Equal_int_int.L0_is (x0 : List Int) (x1 : List Int) (x12 : Int) (x13 : Int) : LimIs (fun k => slices_Equal_int_int.l0 k x0 x1 x12 x13) (slices_Equal_int_int.L0 x0 x1 x12 x13) := ⟨fun k => (slices_Equal_int_int.mono_l k) x0 x1 x12 x13, rfl⟩
noncomputable def slices_IndexFunc_int_int.F (l0 : List Int) (a1 : Int) : Option (Int) := lim (fun k => slices_IndexFunc_int_int.f k l0 a1)
theorem slices_IndexFunc_int_int.F_is (l0 : List Int) (a1 : Int) : LimIs (fun k => slices_IndexFunc_int_int.f k l0 a1) (slices_IndexFunc_int_int.F l0 a1) := ⟨fun k => slices_IndexFunc_int_int.mono l0 a1 k, rfl⟩
noncomputable def slices_ContainsFunc_int_int.F (l0 : List Int) (a1 : Int) : Option (Bool) := lim (fun k => slices_ContainsFunc_int_int.f k l0 a1)
theorem slices_ContainsFunc_int_int.F_is (l0 : List Int) (a1 : Int) : LimIs (fun k => slices_ContainsFunc_int_int.f k l0 a1) (slices_ContainsFunc_int_int.F l0 a1) := ⟨fun k => slices_ContainsFunc_int_int.mono l0 a1 k, rfl⟩
noncomputable def dist_small.F (l0 : List Int) : Option (Bool) := lim (fun k => dist_small.f k l0)
theorem dist_small.F_is (l0 : List Int) : LimIs (fun k => dist_small.f k l0) (dist_small.F l0) := ⟨fun k => dist_small.mono l0 k, rfl⟩
noncomputable def slices_Equal_int_int.F (l0 : List Int) (l1 : List Int) : Option (Bool) := lim (fun k => slices_Equal_int_int.f k l0 l1)
theorem slices_Equal_int_int.F_is (l0 : List Int) (l1 : List Int) : LimIs (fun k => slices_Equal_int_int.f k l0 l1) (slices_Equal_int_int.F l0 l1) := ⟨fun k => slices_Equal_int_int.mono l0 l1 k, rfl⟩
set_option maxRecDepth 100000 in
theorem slices_IndexFunc_int_int.L0_eq (x0 : List Int) (x7 : Int) (x8 : Int) : slices_IndexFunc_int_int.L0 x0 x7 x8 = if x8 < x7 then (if 0 ≤ x8 then (if x8 < (x0.length : Int) then ((dist_small_1.f (rd x0 x8)).bind fun t102 => (if t102 = true then (some x8) else (slices_IndexFunc_int_int.L0 x0 x7 (wrap64 (x8 + 1))))) else (none)) else (none)) else (some (-1)) := by
  refine LimIs.step' (slices_IndexFunc_int_int.L0_is x0 x7 x8).1 (b := fun k => if x8 < x7 then (if 0 ≤ x8 then (if x8 < (x0.length : Int) then ((dist_small_1.f (rd x0 x8)).bind fun t102 => (if t102 = true then (some x8) else (slices_IndexFunc_int_int.l0 k x0 x7 (wrap64 (x8 + 1))))) else (none)) else (none)) else (some (-1))) (fun k => by first | rfl | rw [slices_IndexFunc_int_int.l0]) ?_
  repeat' first
    | (with_reducible exact slices_IndexFunc_int_int.L0_is _ _ _)
    | (with_reducible exact LimIs.const _)
    | (with_reducible refine LimIs.ite ?_ ?_)
    | (with_reducible refine LimIs.bind ?_ (fun _ => ?_))
    | exact slices_IndexFunc_int_int.L0_is _ _ _
    | exact LimIs.const _
    | refine LimIs.ite ?_ ?_
    | refine LimIs.bind ?_ (fun _ => ?_)
set_option maxRecDepth 100000 in
theorem slices_Equal_int_int.L0_eq (x0 : List Int) (x1 : List Int) (x12 : Int) (x13 : Int) : slices_Equal_int_int.L0 x0 x1 x12 x13 = if x13 < x12 then (if 0 ≤ x13 then (if x13 < (x0.length : Int) then (if x13 < (x1.length : Int) then (if (rd x0 x13) = (rd x1 x13) then (slices_Equal_int_int.L0 x0 x1 x12 (wrap64 (x13 + 1))) else (some false)) else (none)) else (none)) else (none)) else (some true) := by
  refine LimIs.step' (slices_Equal_int_int.L0_is x0 x1 x12 x13).1 (b := fun k => if x13 < x12 then (if 0 ≤ x13 then (if x13 < (x0.length : Int) then (if x13 < (x1.length : Int) then (if (rd x0 x13) = (rd x1 x13) then (slices_Equal_int_int.l0 k x0 x1 x12 (wrap64 (x13 + 1))) else (some false)) else (none)) else (none)) else (none)) else (some true)) (fun k => by first | rfl | rw [slices_Equal_int_int.l0]) ?_
  repeat' first
    | (with_reducible exact slices_Equal_int_int.L0_is _ _ _ _)
    | (with_reducible exact LimIs.const _)
    | (with_reducible refine LimIs.ite ?_ ?_)
    | (with_reducible refine LimIs.bind ?_ (fun _ => ?_))
    | exact slices_Equal_int_int.L0_is _ _ _ _
    | exact LimIs.const _
    | refine LimIs.ite ?_ ?_
    | refine LimIs.bind ?_ (fun _ => ?_)
set_option maxRecDepth 100000 in
theorem slices_IndexFunc_int_int.F_eq (l0 : List Int) (a1 : Int) : slices_IndexFunc_int_int.F l0 a1 = slices_IndexFunc_int_int.L0 l0 (l0.length : Int) 0 := by
  refine LimIs.out (?_ : LimIs (fun k => slices_IndexFunc_int_int.l0 k l0 (l0.length : Int) 0) _)
  repeat' first
    | (with_reducible exact slices_IndexFunc_int_int.L0_is _ _ _)
    | (with_reducible exact LimIs.const _)
    | (with_reducible refine LimIs.ite ?_ ?_)
    | (with_reducible refine LimIs.bind ?_ (fun _ => ?_))
    | exact slices_IndexFunc_int_int.L0_is _ _ _
    | exact LimIs.const _
    | refine LimIs.ite ?_ ?_
    | refine LimIs.bind ?_ (fun _ => ?_)
set_option maxRecDepth 100000 in
theorem slices_ContainsFunc_int_int.F_eq (l0 : List Int) (a1 : Int) : slices_ContainsFunc_int_int.F l0 a1 = (slices_IndexFunc_int_int.F l0 a1).bind fun t103 => (some (decide (t103 ≥ 0))) := by
  refine LimIs.out (?_ : LimIs (fun k => (slices_IndexFunc_int_int.f k l0 a1).bind fun t103 => (some (decide (t103 ≥ 0)))) _)
  repeat' first
    | (with_reducible exact slices_IndexFunc_int_int.F_is _ _)
    | (with_reducible exact LimIs.const _)
    | (with_reducible refine LimIs.ite ?_ ?_)
    | (with_reducible refine LimIs.bind ?_ (fun _ => ?_))
    | exact slices_IndexFunc_int_int.F_is _ _
    | exact LimIs.const _
    | refine LimIs.ite ?_ ?_
    | refine LimIs.bind ?_ (fun _ => ?_)
set_option maxRecDepth 100000 in
theorem dist_small.F_eq (l0 : List Int) : dist_small.F l0 = if (l0.length : Int) ≤ 16 then ((slices_ContainsFunc_int_int.F l0 990000076).bind fun t104 => (some (!t104))) else (some false) := by
  refine LimIs.out (?_ : LimIs (fun k => if (l0.length : Int) ≤ 16 then ((slices_ContainsFunc_int_int.f k l0 990000076).bind fun t104 => (some (!t104))) else (some false)) _)
  repeat' first
    | (with_reducible exact slices_ContainsFunc_int_int.F_is _ _)
    | (with_reducible exact LimIs.const _)
    | (with_reducible refine LimIs.ite ?_ ?_)
    | (with_reducible refine LimIs.bind ?_ (fun _ => ?_))
    | exact slices_ContainsFunc_int_int.F_is _ _
    | exact LimIs.const _
    | refine LimIs.ite ?_ ?_
    | refine LimIs.bind ?_ (fun _ => ?_)
set_option maxRecDepth 100000 in
theorem slices_Equal_int_int.F_eq (l0 : List Int) (l1 : List Int) : slices_Equal_int_int.F l0 l1 = if (l0.length : Int) = (l1.length : Int) then (slices_Equal_int_int.L0 l0 l1 (l0.length : Int) 0) else (some false) := by
  refine LimIs.out (?_ : LimIs (fun k => if (l0.length : Int) = (l1.length : Int) then (slices_Equal_int_int.l0 k l0 l1 (l0.length : Int) 0) else (some false)) _)
  repeat' first
    | (with_reducible exact slices_Equal_int_int.L0_is _ _ _ _)
    | (with_reducible exact LimIs.const _)
    | (with_reducible refine LimIs.ite ?_ ?_)
    | (with_reducible refine LimIs.bind ?_ (fun _ => ?_))
    | exact slices_Equal_int_int.L0_is _ _ _ _
    | exact LimIs.const _
    | refine LimIs.ite ?_ ?_
    | refine LimIs.bind ?_ (fun _ => ?_)
end Go.Proofs.Ytkemhfhmlcljjaa.PB
end
section
namespace Go.Proofs.Ytkemhfhmlcljjaa.PB
open Go.RowKit Go.Proofs.YtkemhfhmlcljjaaW.PrintWords Go.Proofs.YtkemhfhmlcljjaaW.PrintLast Go.Proofs.YtkemhfhmlcljjaaW.PrintMore
open Go.Proofs.YtkemhfhmlcljjaaW.EvKit
set_option linter.unusedVariables false
noncomputable def dist_total.L0 (x3 : Int) (x6 : List (S32)) (x7 : Int) (x8 : Int) : Option (Int) := lim (fun k => dist_total.l0 k x3 x6 x7 x8)
theorem dist_total.L0_is (x3 : Int) (x6 : List (S32)) (x7 : Int) (x8 : Int) : LimIs (fun k => dist_total.l0 k x3 x6 x7 x8) (dist_total.L0 x3 x6 x7 x8) := ⟨fun k => (dist_total.mono_l k) x3 x6 x7 x8, rfl⟩
noncomputable def dist_gcd.L0 (x0 : Int) (x1 : Int) : Option (Int) := lim (fun k => dist_gcd.l0 k x0 x1)
theorem dist_gcd.L0_is (x0 : Int) (x1 : Int) : LimIs (fun k => dist_gcd.l0 k x0 x1) (dist_gcd.L0 x0 x1) := ⟨fun k => (dist_gcd.mono_l k) x0 x1, rfl⟩
noncomputable def slices_Compare_int_int.L0 (x0 : List Int) (x1 : List Int) (x9 : List Int) (x10 : Int) (x11 : Int) : Option (Int) := lim (fun k => slices_Compare_int_int.l0 k x0 x1 x9 x10 x11)
theorem slices_Compare_int_int.L0_is (x0 : List Int) (x1 : List Int) (x9 : List Int) (x10 : Int) (x11 : Int) : LimIs (fun k => slices_Compare_int_int.l0 k x0 x1 x9 x10 x11) (slices_Compare_int_int.L0 x0 x1 x9 x10 x11) := ⟨fun k => (slices_Compare_int_int.mono_l k) x0 x1 x9 x10 x11, rfl⟩
noncomputable def dist_total.F (l0 : List (S32)) : Option (Int) := lim (fun k => dist_total.f k l0)
theorem dist_total.F_is (l0 : List (S32)) : LimIs (fun k => dist_total.f k l0) (dist_total.F l0) := ⟨fun k => dist_total.mono l0 k, rfl⟩
noncomputable def dist_gcd.F (a0 : Int) (a1 : Int) : Option (Int) := lim (fun k => dist_gcd.f k a0 a1)
theorem dist_gcd.F_is (a0 : Int) (a1 : Int) : LimIs (fun k => dist_gcd.f k a0 a1) (dist_gcd.F a0 a1) := ⟨fun k => dist_gcd.mono a0 a1 k, rfl⟩
noncomputable def slices_Compare_int_int.F (l0 : List Int) (l1 : List Int) : Option (Int) := lim (fun k => slices_Compare_int_int.f k l0 l1)
theorem slices_Compare_int_int.F_is (l0 : List Int) (l1 : List Int) : LimIs (fun k => slices_Compare_int_int.f k l0 l1) (slices_Compare_int_int.F l0 l1) := ⟨fun k => slices_Compare_int_int.mono l0 l1 k, rfl⟩
set_option maxRecDepth 100000 in
theorem dist_total.L0_eq (x3 : Int) (x6 : List (S32)) (x7 : Int) (x8 : Int) : dist_total.L0 x3 x6 x7 x8 = if x8 < x7 then (if 0 ≤ x8 then (if x8 < (x6.length : Int) then (dist_total.L0 (wrap64 (x3 + ((rd_T32 x6 x8).f1))) x6 x7 (wrap64 (x8 + 1))) else (none)) else (none)) else (some x3) := by
  refine LimIs.step' (dist_total.L0_is x3 x6 x7 x8).1 (b := fun k => if x8 < x7 then (if 0 ≤ x8 then (if x8 < (x6.length : Int) then (dist_total.l0 k (wrap64 (x3 + ((rd_T32 x6 x8).f1))) x6 x7 (wrap64 (x8 + 1))) else (none)) else (none)) else (some x3)) (fun k => by first | rfl | rw [dist_total.l0]) ?_
  repeat' first
    | (with_reducible exact dist_total.L0_is _ _ _ _)
    | (with_reducible exact LimIs.const _)
    | (with_reducible refine LimIs.ite ?_ ?_)
    | (with_reducible refine LimIs.bind ?_ (fun _ => ?_))
    | exact dist_total.L0_is _ _ _ _
    | exact LimIs.const _
    | refine LimIs.ite ?_ ?_
    | refine LimIs.bind ?_ (fun _ => ?_)
set_option maxRecDepth 100000 in
theorem dist_gcd.L0_eq (x0 : Int) (x1 : Int) : dist_gcd.L0 x0 x1 = if x1 = 0 then (some x0) else (dist_gcd.L0 x1 (Int.tmod x0 x1)) := by
  refine LimIs.step' (dist_gcd.L0_is x0 x1).1 (b := fun k => if x1 = 0 then (some x0) else (dist_gcd.l0 k x1 (Int.tmod x0 x1))) (fun k => by first | rfl | rw [dist_gcd.l0]) ?_
  repeat' first
    | (with_reducible exact dist_gcd.L0_is _ _)
    | (with_reducible exact LimIs.const _)
    | (with_reducible refine LimIs.ite ?_ ?_)
    | (with_reducible refine LimIs.bind ?_ (fun _ => ?_))
    | exact dist_gcd.L0_is _ _
    | exact LimIs.const _
    | refine LimIs.ite ?_ ?_
    | refine LimIs.bind ?_ (fun _ => ?_)
set_option maxRecDepth 100000 in
theorem slices_Compare_int_int.L0_eq (x0 : List Int) (x1 : List Int) (x9 : List Int) (x10 : Int) (x11 : Int) : slices_Compare_int_int.L0 x0 x1 x9 x10 x11 = if x11 < x10 then (if 0 ≤ x11 then (if x11 < (x9.length : Int) then (if x11 ≥ (x1.length : Int) then (some 1) else (if x11 < (x1.length : Int) then ((cmp_Compare_int.f (rd x9 x11) (rd x1 x11)).bind fun t113 => (if t113 = 0 then (slices_Compare_int_int.L0 x0 x1 x9 x10 (wrap64 (x11 + 1))) else (some t113))) else (none))) else (none)) else (none)) else (if (x0.length : Int) < (x1.length : Int) then (some (-1)) else (some 0)) := by
  refine LimIs.step' (slices_Compare_int_int.L0_is x0 x1 x9 x10 x11).1 (b := fun k => if x11 < x10 then (if 0 ≤ x11 then (if x11 < (x9.length : Int) then (if x11 ≥ (x1.length : Int) then (some 1) else (if x11 < (x1.length : Int) then ((cmp_Compare_int.f (rd x9 x11) (rd x1 x11)).bind fun t113 => (if t113 = 0 then (slices_Compare_int_int.l0 k x0 x1 x9 x10 (wrap64 (x11 + 1))) else (some t113))) else (none))) else (none)) else (none)) else (if (x0.length : Int) < (x1.length : Int) then (some (-1)) else (some 0))) (fun k => by first | rfl | rw [slices_Compare_int_int.l0]) ?_
  repeat' first
    | (with_reducible exact slices_Compare_int_int.L0_is _ _ _ _ _)
    | (with_reducible exact LimIs.const _)
    | (with_reducible refine LimIs.ite ?_ ?_)
    | (with_reducible refine LimIs.bind ?_ (fun _ => ?_))
    | exact slices_Compare_int_int.L0_is _ _ _ _ _
    | exact LimIs.const _
    | refine LimIs.ite ?_ ?_
    | refine LimIs.bind ?_ (fun _ => ?_)
set_option maxRecDepth 100000 in
theorem dist_total.F_eq (l0 : List (S32)) : dist_total.F l0 = dist_total.L0 0 l0 (l0.length : Int) 0 := by
  refine LimIs.out (?_ : LimIs (fun k => dist_total.l0 k 0 l0 (l0.length : Int) 0) _)
  repeat' first
    | (with_reducible exact dist_total.L0_is _ _ _ _)
    | (with_reducible exact LimIs.const _)
    | (with_reducible refine LimIs.ite ?_ ?_)
    | (with_reducible refine LimIs.bind ?_ (fun _ => ?_))
    | exact dist_total.L0_is _ _ _ _
    | exact LimIs.const _
    | refine LimIs.ite ?_ ?_
    | refine LimIs.bind ?_ (fun _ => ?_)
set_option maxRecDepth 100000 in
theorem dist_gcd.F_eq (a0 : Int) (a1 : Int) : dist_gcd.F a0 a1 = dist_gcd.L0 a0 a1 := by
  refine LimIs.out (?_ : LimIs (fun k => dist_gcd.l0 k a0 a1) _)
  repeat' first
    | (with_reducible exact dist_gcd.L0_is _ _)
    | (with_reducible exact LimIs.const _)
    | (with_reducible refine LimIs.ite ?_ ?_)
    | (with_reducible refine LimIs.bind ?_ (fun _ => ?_))
    | exact dist_gcd.L0_is _ _
    | exact LimIs.const _
    | refine LimIs.ite ?_ ?_
    | refine LimIs.bind ?_ (fun _ => ?_)
set_option maxRecDepth 100000 in
theorem slices_Compare_int_int.F_eq (l0 : List Int) (l1 : List Int) : slices_Compare_int_int.F l0 l1 = slices_Compare_int_int.L0 l0 l1 l0 (l0.length : Int) 0 := by
  refine LimIs.out (?_ : LimIs (fun k => slices_Compare_int_int.l0 k l0 l1 l0 (l0.length : Int) 0) _)
  repeat' first
    | (with_reducible exact slices_Compare_int_int.L0_is _ _ _ _ _)
    | (with_reducible exact LimIs.const _)
    | (with_reducible refine LimIs.ite ?_ ?_)
    | (with_reducible refine LimIs.bind ?_ (fun _ => ?_))
    | exact slices_Compare_int_int.L0_is _ _ _ _ _
    | exact LimIs.const _
    | refine LimIs.ite ?_ ?_
    | refine LimIs.bind ?_ (fun _ => ?_)
end Go.Proofs.Ytkemhfhmlcljjaa.PB
end
section
namespace Go.Proofs.Ytkemhfhmlcljjaa.PB
open Go.RowKit Go.Proofs.YtkemhfhmlcljjaaW.PrintWords Go.Proofs.YtkemhfhmlcljjaaW.PrintLast Go.Proofs.YtkemhfhmlcljjaaW.PrintMore
open Go.Proofs.YtkemhfhmlcljjaaW.EvKit
set_option linter.unusedVariables false
noncomputable def dist_tidy.F (l0 : List S32) : Option (List S32 × Int) := lim (fun k => dist_tidy.f k l0)
theorem dist_tidy.F_is (l0 : List S32) : LimIs (fun k => dist_tidy.f k l0) (dist_tidy.F l0) := ⟨fun k => dist_tidy.mono l0 k, rfl⟩
set_option maxRecDepth 100000 in
theorem dist_tidy.F_eq (l0 : List S32) : dist_tidy.F l0 = if tGuard l0 = true then some (tDone (tMerge (sortP l0))) else none := by
  refine LimIs.out (?_ : LimIs (fun k => if tGuard l0 = true then some (tDone (tMerge (sortP l0))) else none) _)
  repeat' first
    | (with_reducible exact LimIs.const _)
    | (with_reducible refine LimIs.ite ?_ ?_)
    | (with_reducible refine LimIs.bind ?_ (fun _ => ?_))
    | exact LimIs.const _
    | refine LimIs.ite ?_ ?_
    | refine LimIs.bind ?_ (fun _ => ?_)
end Go.Proofs.Ytkemhfhmlcljjaa.PB
end
section
namespace Go.Proofs.Ytkemhfhmlcljjaa.PB
open Go.RowKit Go.Proofs.YtkemhfhmlcljjaaW.PrintWords Go.Proofs.YtkemhfhmlcljjaaW.PrintLast Go.Proofs.YtkemhfhmlcljjaaW.PrintMore
open Go.Proofs.YtkemhfhmlcljjaaW.EvKit
set_option linter.unusedVariables false
noncomputable def hushref2_Small.L0 (x8 : List Int) (x9 : Int) (x10 : Int) : Option (Bool) := lim (fun k => hushref2_Small.l0 k x8 x9 x10)
theorem hushref2_Small.L0_is (x8 : List Int) (x9 : Int) (x10 : Int) : LimIs (fun k => hushref2_Small.l0 k x8 x9 x10) (hushref2_Small.L0 x8 x9 x10) := ⟨fun k => (hushref2_Small.mono_l k) x8 x9 x10, rfl⟩
noncomputable def hushref2_Compare.L0 (x0 : List Int) (x1 : List Int) (x7 : Int) (x8 : Int) : Option (Int) := lim (fun k => hushref2_Compare.l0 k x0 x1 x7 x8)
theorem hushref2_Compare.L0_is (x0 : List Int) (x1 : List Int) (x7 : Int) (x8 : Int) : LimIs (fun k => hushref2_Compare.l0 k x0 x1 x7 x8) (hushref2_Compare.L0 x0 x1 x7 x8) := ⟨fun k => (hushref2_Compare.mono_l k) x0 x1 x7 x8, rfl⟩
noncomputable def hushref2_Weight.L0 (x1 : List Int) (x5 : Int) (x8 : List (S32)) (x9 : Int) (x10 : Int) : Option (Int) := lim (fun k => hushref2_Weight.l0 k x1 x5 x8 x9 x10)
theorem hushref2_Weight.L0_is (x1 : List Int) (x5 : Int) (x8 : List (S32)) (x9 : Int) (x10 : Int) : LimIs (fun k => hushref2_Weight.l0 k x1 x5 x8 x9 x10) (hushref2_Weight.L0 x1 x5 x8 x9 x10) := ⟨fun k => (hushref2_Weight.mono_l k) x1 x5 x8 x9 x10, rfl⟩
noncomputable def hushref2_Small.F (l0 : List Int) : Option (Bool) := lim (fun k => hushref2_Small.f k l0)
theorem hushref2_Small.F_is (l0 : List Int) : LimIs (fun k => hushref2_Small.f k l0) (hushref2_Small.F l0) := ⟨fun k => hushref2_Small.mono l0 k, rfl⟩
noncomputable def hushref2_Compare.F (l0 : List Int) (l1 : List Int) : Option (Int) := lim (fun k => hushref2_Compare.f k l0 l1)
theorem hushref2_Compare.F_is (l0 : List Int) (l1 : List Int) : LimIs (fun k => hushref2_Compare.f k l0 l1) (hushref2_Compare.F l0 l1) := ⟨fun k => hushref2_Compare.mono l0 l1 k, rfl⟩
noncomputable def hushref2_Weight.F (l0 : List (S32)) (l1 : List Int) : Option (Int) := lim (fun k => hushref2_Weight.f k l0 l1)
theorem hushref2_Weight.F_is (l0 : List (S32)) (l1 : List Int) : LimIs (fun k => hushref2_Weight.f k l0 l1) (hushref2_Weight.F l0 l1) := ⟨fun k => hushref2_Weight.mono l0 l1 k, rfl⟩
set_option maxRecDepth 100000 in
theorem hushref2_Small.L0_eq (x8 : List Int) (x9 : Int) (x10 : Int) : hushref2_Small.L0 x8 x9 x10 = if x10 < x9 then (if 0 ≤ x10 then (if x10 < (x8.length : Int) then (if (rd x8 x10) > 1073741824 then (some false) else (if (rd x8 x10) < (-1073741824) then (some false) else (hushref2_Small.L0 x8 x9 (wrap64 (x10 + 1))))) else (none)) else (none)) else (some true) := by
  refine LimIs.step' (hushref2_Small.L0_is x8 x9 x10).1 (b := fun k => if x10 < x9 then (if 0 ≤ x10 then (if x10 < (x8.length : Int) then (if (rd x8 x10) > 1073741824 then (some false) else (if (rd x8 x10) < (-1073741824) then (some false) else (hushref2_Small.l0 k x8 x9 (wrap64 (x10 + 1))))) else (none)) else (none)) else (some true)) (fun k => by first | rfl | rw [hushref2_Small.l0]) ?_
  repeat' first
    | (with_reducible exact hushref2_Small.L0_is _ _ _)
    | (with_reducible exact LimIs.const _)
    | (with_reducible refine LimIs.ite ?_ ?_)
    | (with_reducible refine LimIs.bind ?_ (fun _ => ?_))
    | exact hushref2_Small.L0_is _ _ _
    | exact LimIs.const _
    | refine LimIs.ite ?_ ?_
    | refine LimIs.bind ?_ (fun _ => ?_)
set_option maxRecDepth 100000 in
theorem hushref2_Compare.L0_eq (x0 : List Int) (x1 : List Int) (x7 : Int) (x8 : Int) : hushref2_Compare.L0 x0 x1 x7 x8 = if x8 < x7 then (if x8 ≥ (x1.length : Int) then (some 1) else (if 0 ≤ x8 then (if x8 < (x0.length : Int) then (if x8 < (x1.length : Int) then (if (rd x0 x8) = (rd x1 x8) then (hushref2_Compare.L0 x0 x1 x7 (wrap64 (x8 + 1))) else (if (rd x0 x8) < (rd x1 x8) then (some (-1)) else (some 1))) else (none)) else (none)) else (none))) else (if (x0.length : Int) < (x1.length : Int) then (some (-1)) else (some 0)) := by
  refine LimIs.step' (hushref2_Compare.L0_is x0 x1 x7 x8).1 (b := fun k => if x8 < x7 then (if x8 ≥ (x1.length : Int) then (some 1) else (if 0 ≤ x8 then (if x8 < (x0.length : Int) then (if x8 < (x1.length : Int) then (if (rd x0 x8) = (rd x1 x8) then (hushref2_Compare.l0 k x0 x1 x7 (wrap64 (x8 + 1))) else (if (rd x0 x8) < (rd x1 x8) then (some (-1)) else (some 1))) else (none)) else (none)) else (none))) else (if (x0.length : Int) < (x1.length : Int) then (some (-1)) else (some 0))) (fun k => by first | rfl | rw [hushref2_Compare.l0]) ?_
  repeat' first
    | (with_reducible exact hushref2_Compare.L0_is _ _ _ _)
    | (with_reducible exact LimIs.const _)
    | (with_reducible refine LimIs.ite ?_ ?_)
    | (with_reducible refine LimIs.bind ?_ (fun _ => ?_))
    | exact hushref2_Compare.L0_is _ _ _ _
    | exact LimIs.const _
    | refine LimIs.ite ?_ ?_
    | refine LimIs.bind ?_ (fun _ => ?_)
set_option maxRecDepth 100000 in
theorem hushref2_Weight.L0_eq (x1 : List Int) (x5 : Int) (x8 : List (S32)) (x9 : Int) (x10 : Int) : hushref2_Weight.L0 x1 x5 x8 x9 x10 = if x10 < x9 then (if 0 ≤ x10 then (if x10 < (x8.length : Int) then ((hushref2_Compare.F ((rd_T32 x8 x10).f0) x1).bind fun t134 => (if t134 = 0 then (hushref2_Weight.L0 x1 (wrap64 (x5 + ((rd_T32 x8 x10).f1))) x8 x9 (wrap64 (x10 + 1))) else (hushref2_Weight.L0 x1 x5 x8 x9 (wrap64 (x10 + 1))))) else (none)) else (none)) else (some x5) := by
  refine LimIs.step' (hushref2_Weight.L0_is x1 x5 x8 x9 x10).1 (b := fun k => if x10 < x9 then (if 0 ≤ x10 then (if x10 < (x8.length : Int) then ((hushref2_Compare.f k ((rd_T32 x8 x10).f0) x1).bind fun t134 => (if t134 = 0 then (hushref2_Weight.l0 k x1 (wrap64 (x5 + ((rd_T32 x8 x10).f1))) x8 x9 (wrap64 (x10 + 1))) else (hushref2_Weight.l0 k x1 x5 x8 x9 (wrap64 (x10 + 1))))) else (none)) else (none)) else (some x5)) (fun k => by first | rfl | rw [hushref2_Weight.l0]) ?_
  repeat' first
    | (with_reducible exact hushref2_Compare.F_is _ _)
    | (with_reducible exact hushref2_Weight.L0_is _ _ _ _ _)
    | (with_reducible exact LimIs.const _)
    | (with_reducible refine LimIs.ite ?_ ?_)
    | (with_reducible refine LimIs.bind ?_ (fun _ => ?_))
    | exact hushref2_Compare.F_is _ _
    | exact hushref2_Weight.L0_is _ _ _ _ _
    | exact LimIs.const _
    | refine LimIs.ite ?_ ?_
    | refine LimIs.bind ?_ (fun _ => ?_)
set_option maxRecDepth 100000 in
theorem hushref2_Small.F_eq (l0 : List Int) : hushref2_Small.F l0 = if (l0.length : Int) > 16 then (some false) else (hushref2_Small.L0 l0 (l0.length : Int) 0) := by
  refine LimIs.out (?_ : LimIs (fun k => if (l0.length : Int) > 16 then (some false) else (hushref2_Small.l0 k l0 (l0.length : Int) 0)) _)
  repeat' first
    | (with_reducible exact hushref2_Small.L0_is _ _ _)
    | (with_reducible exact LimIs.const _)
    | (with_reducible refine LimIs.ite ?_ ?_)
    | (with_reducible refine LimIs.bind ?_ (fun _ => ?_))
    | exact hushref2_Small.L0_is _ _ _
    | exact LimIs.const _
    | refine LimIs.ite ?_ ?_
    | refine LimIs.bind ?_ (fun _ => ?_)
set_option maxRecDepth 100000 in
theorem hushref2_Compare.F_eq (l0 : List Int) (l1 : List Int) : hushref2_Compare.F l0 l1 = hushref2_Compare.L0 l0 l1 (l0.length : Int) 0 := by
  refine LimIs.out (?_ : LimIs (fun k => hushref2_Compare.l0 k l0 l1 (l0.length : Int) 0) _)
  repeat' first
    | (with_reducible exact hushref2_Compare.L0_is _ _ _ _)
    | (with_reducible exact LimIs.const _)
    | (with_reducible refine LimIs.ite ?_ ?_)
    | (with_reducible refine LimIs.bind ?_ (fun _ => ?_))
    | exact hushref2_Compare.L0_is _ _ _ _
    | exact LimIs.const _
    | refine LimIs.ite ?_ ?_
    | refine LimIs.bind ?_ (fun _ => ?_)
set_option maxRecDepth 100000 in
theorem hushref2_Weight.F_eq (l0 : List (S32)) (l1 : List Int) : hushref2_Weight.F l0 l1 = hushref2_Weight.L0 l1 0 l0 (l0.length : Int) 0 := by
  refine LimIs.out (?_ : LimIs (fun k => hushref2_Weight.l0 k l1 0 l0 (l0.length : Int) 0) _)
  repeat' first
    | (with_reducible exact hushref2_Weight.L0_is _ _ _ _ _)
    | (with_reducible exact LimIs.const _)
    | (with_reducible refine LimIs.ite ?_ ?_)
    | (with_reducible refine LimIs.bind ?_ (fun _ => ?_))
    | exact hushref2_Weight.L0_is _ _ _ _ _
    | exact LimIs.const _
    | refine LimIs.ite ?_ ?_
    | refine LimIs.bind ?_ (fun _ => ?_)
end Go.Proofs.Ytkemhfhmlcljjaa.PB
end
section
namespace Go.Proofs.Ytkemhfhmlcljjaa.PB
open Go.RowKit Go.Proofs.YtkemhfhmlcljjaaW.PrintWords Go.Proofs.YtkemhfhmlcljjaaW.PrintLast Go.Proofs.YtkemhfhmlcljjaaW.PrintMore
open Go.Proofs.YtkemhfhmlcljjaaW.EvKit
set_option linter.unusedVariables false
noncomputable def hushref2_Total.L0 (x3 : Int) (x6 : List (S32)) (x7 : Int) (x8 : Int) : Option (Int) := lim (fun k => hushref2_Total.l0 k x3 x6 x7 x8)
theorem hushref2_Total.L0_is (x3 : Int) (x6 : List (S32)) (x7 : Int) (x8 : Int) : LimIs (fun k => hushref2_Total.l0 k x3 x6 x7 x8) (hushref2_Total.L0 x3 x6 x7 x8) := ⟨fun k => (hushref2_Total.mono_l k) x3 x6 x7 x8, rfl⟩
noncomputable def hushref1_Divisor.J1 (x0 : Int) (x1 : Int) (x5 : Int) : Option (Int) := lim (fun k => hushref1_Divisor.j1 k x0 x1 x5)
theorem hushref1_Divisor.J1_is (x0 : Int) (x1 : Int) (x5 : Int) : LimIs (fun k => hushref1_Divisor.j1 k x0 x1 x5) (hushref1_Divisor.J1 x0 x1 x5) := ⟨fun k => (hushref1_Divisor.mono_l k).1 x0 x1 x5, rfl⟩
noncomputable def hushref1_Divisor.L1 (x0 : Int) (x1 : Int) (x5 : Int) : Option (Int) := lim (fun k => hushref1_Divisor.l1 k x0 x1 x5)
theorem hushref1_Divisor.L1_is (x0 : Int) (x1 : Int) (x5 : Int) : LimIs (fun k => hushref1_Divisor.l1 k x0 x1 x5) (hushref1_Divisor.L1 x0 x1 x5) := ⟨fun k => (hushref1_Divisor.mono_l k).2.1 x0 x1 x5, rfl⟩
noncomputable def hushref1_Divisor.L2 (x0 : Int) (x5 : Int) : Option (Int) := lim (fun k => hushref1_Divisor.l2 k x0 x5)
theorem hushref1_Divisor.L2_is (x0 : Int) (x5 : Int) : LimIs (fun k => hushref1_Divisor.l2 k x0 x5) (hushref1_Divisor.L2 x0 x5) := ⟨fun k => (hushref1_Divisor.mono_l k).2.2.1 x0 x5, rfl⟩
noncomputable def hushref1_Divisor.L0 (x0 : Int) (x1 : Int) (x5 : Int) : Option (Int) := lim (fun k => hushref1_Divisor.l0 k x0 x1 x5)
theorem hushref1_Divisor.L0_is (x0 : Int) (x1 : Int) (x5 : Int) : LimIs (fun k => hushref1_Divisor.l0 k x0 x1 x5) (hushref1_Divisor.L0 x0 x1 x5) := ⟨fun k => (hushref1_Divisor.mono_l k).2.2.2 x0 x1 x5, rfl⟩
noncomputable def hushref2_Total.F (l0 : List (S32)) : Option (Int) := lim (fun k => hushref2_Total.f k l0)
theorem hushref2_Total.F_is (l0 : List (S32)) : LimIs (fun k => hushref2_Total.f k l0) (hushref2_Total.F l0) := ⟨fun k => hushref2_Total.mono l0 k, rfl⟩
noncomputable def hushref1_Divisor.F (a0 : Int) (a1 : Int) : Option (Int) := lim (fun k => hushref1_Divisor.f k a0 a1)
theorem hushref1_Divisor.F_is (a0 : Int) (a1 : Int) : LimIs (fun k => hushref1_Divisor.f k a0 a1) (hushref1_Divisor.F a0 a1) := ⟨fun k => hushref1_Divisor.mono a0 a1 k, rfl⟩
set_option maxRecDepth 100000 in
theorem hushref2_Total.L0_eq (x3 : Int) (x6 : List (S32)) (x7 : Int) (x8 : Int) : hushref2_Total.L0 x3 x6 x7 x8 = if x8 < x7 then (if 0 ≤ x8 then (if x8 < (x6.length : Int) then (hushref2_Total.L0 (wrap64 (x3 + ((rd_T32 x6 x8).f1))) x6 x7 (wrap64 (x8 + 1))) else (none)) else (none)) else (some x3) := by
  refine LimIs.step' (hushref2_Total.L0_is x3 x6 x7 x8).1 (b := fun k => if x8 < x7 then (if 0 ≤ x8 then (if x8 < (x6.length : Int) then (hushref2_Total.l0 k (wrap64 (x3 + ((rd_T32 x6 x8).f1))) x6 x7 (wrap64 (x8 + 1))) else (none)) else (none)) else (some x3)) (fun k => by first | rfl | rw [hushref2_Total.l0]) ?_
  repeat' first
    | (with_reducible exact hushref2_Total.L0_is _ _ _ _)
    | (with_reducible exact LimIs.const _)
    | (with_reducible refine LimIs.ite ?_ ?_)
    | (with_reducible refine LimIs.bind ?_ (fun _ => ?_))
    | exact hushref2_Total.L0_is _ _ _ _
    | exact LimIs.const _
    | refine LimIs.ite ?_ ?_
    | refine LimIs.bind ?_ (fun _ => ?_)
set_option maxRecDepth 100000 in
theorem hushref1_Divisor.J1_eq (x0 : Int) (x1 : Int) (x5 : Int) : hushref1_Divisor.J1 x0 x1 x5 = hushref1_Divisor.L1 x0 x1 x5 := by
  refine LimIs.step' (hushref1_Divisor.J1_is x0 x1 x5).1 (b := fun k => hushref1_Divisor.l1 k x0 x1 x5) (fun k => by first | rfl | rw [hushref1_Divisor.j1]) ?_
  repeat' first
    | (with_reducible exact hushref1_Divisor.L1_is _ _ _)
    | (with_reducible exact LimIs.const _)
    | (with_reducible refine LimIs.ite ?_ ?_)
    | (with_reducible refine LimIs.bind ?_ (fun _ => ?_))
    | exact hushref1_Divisor.L1_is _ _ _
    | exact LimIs.const _
    | refine LimIs.ite ?_ ?_
    | refine LimIs.bind ?_ (fun _ => ?_)
set_option maxRecDepth 100000 in
theorem hushref1_Divisor.L1_eq (x0 : Int) (x1 : Int) (x5 : Int) : hushref1_Divisor.L1 x0 x1 x5 = if x0 = x1 then (hushref1_Divisor.L2 x0 x5) else (if (Int.tmod x0 2) = 0 then (hushref1_Divisor.L1 (wrap64 (Int.tdiv x0 2)) x1 x5) else (if (Int.tmod x1 2) = 0 then (hushref1_Divisor.L1 x0 (wrap64 (Int.tdiv x1 2)) x5) else (if x0 > x1 then (hushref1_Divisor.L1 (wrap64 (x0 - x1)) x1 x5) else (hushref1_Divisor.L1 x0 (wrap64 (x1 - x0)) x5)))) := by
  refine LimIs.step' (hushref1_Divisor.L1_is x0 x1 x5).1 (b := fun k => if x0 = x1 then (hushref1_Divisor.l2 k x0 x5) else (if (Int.tmod x0 2) = 0 then (hushref1_Divisor.l1 k (wrap64 (Int.tdiv x0 2)) x1 x5) else (if (Int.tmod x1 2) = 0 then (hushref1_Divisor.l1 k x0 (wrap64 (Int.tdiv x1 2)) x5) else (if x0 > x1 then (hushref1_Divisor.l1 k (wrap64 (x0 - x1)) x1 x5) else (hushref1_Divisor.l1 k x0 (wrap64 (x1 - x0)) x5))))) (fun k => by first | rfl | rw [hushref1_Divisor.l1]) ?_
  repeat' first
    | (with_reducible exact hushref1_Divisor.L2_is _ _)
    | (with_reducible exact hushref1_Divisor.L1_is _ _ _)
    | (with_reducible exact LimIs.const _)
    | (with_reducible refine LimIs.ite ?_ ?_)
    | (with_reducible refine LimIs.bind ?_ (fun _ => ?_))
    | exact hushref1_Divisor.L2_is _ _
    | exact hushref1_Divisor.L1_is _ _ _
    | exact LimIs.const _
    | refine LimIs.ite ?_ ?_
    | refine LimIs.bind ?_ (fun _ => ?_)
set_option maxRecDepth 100000 in
theorem hushref1_Divisor.L2_eq (x0 : Int) (x5 : Int) : hushref1_Divisor.L2 x0 x5 = if x5 > 0 then (hushref1_Divisor.L2 (wrap64 (2 * x0)) (wrap64 (x5 - 1))) else (some x0) := by
  refine LimIs.step' (hushref1_Divisor.L2_is x0 x5).1 (b := fun k => if x5 > 0 then (hushref1_Divisor.l2 k (wrap64 (2 * x0)) (wrap64 (x5 - 1))) else (some x0)) (fun k => by first | rfl | rw [hushref1_Divisor.l2]) ?_
  repeat' first
    | (with_reducible exact hushref1_Divisor.L2_is _ _)
    | (with_reducible exact LimIs.const _)
    | (with_reducible refine LimIs.ite ?_ ?_)
    | (with_reducible refine LimIs.bind ?_ (fun _ => ?_))
    | exact hushref1_Divisor.L2_is _ _
    | exact LimIs.const _
    | refine LimIs.ite ?_ ?_
    | refine LimIs.bind ?_ (fun _ => ?_)
set_option maxRecDepth 100000 in
theorem hushref1_Divisor.L0_eq (x0 : Int) (x1 : Int) (x5 : Int) : hushref1_Divisor.L0 x0 x1 x5 = if (Int.tmod x0 2) = 0 then (if (Int.tmod x1 2) = 0 then (hushref1_Divisor.L0 (wrap64 (Int.tdiv x0 2)) (wrap64 (Int.tdiv x1 2)) (wrap64 (x5 + 1))) else (hushref1_Divisor.J1 x0 x1 x5)) else (hushref1_Divisor.J1 x0 x1 x5) := by
  refine LimIs.step' (hushref1_Divisor.L0_is x0 x1 x5).1 (b := fun k => if (Int.tmod x0 2) = 0 then (if (Int.tmod x1 2) = 0 then (hushref1_Divisor.l0 k (wrap64 (Int.tdiv x0 2)) (wrap64 (Int.tdiv x1 2)) (wrap64 (x5 + 1))) else (hushref1_Divisor.j1 k x0 x1 x5)) else (hushref1_Divisor.j1 k x0 x1 x5)) (fun k => by first | rfl | rw [hushref1_Divisor.l0]) ?_
  repeat' first
    | (with_reducible exact hushref1_Divisor.L0_is _ _ _)
    | (with_reducible exact hushref1_Divisor.J1_is _ _ _)
    | (with_reducible exact LimIs.const _)
    | (with_reducible refine LimIs.ite ?_ ?_)
    | (with_reducible refine LimIs.bind ?_ (fun _ => ?_))
    | exact hushref1_Divisor.L0_is _ _ _
    | exact hushref1_Divisor.J1_is _ _ _
    | exact LimIs.const _
    | refine LimIs.ite ?_ ?_
    | refine LimIs.bind ?_ (fun _ => ?_)
set_option maxRecDepth 100000 in
theorem hushref2_Total.F_eq (l0 : List (S32)) : hushref2_Total.F l0 = hushref2_Total.L0 0 l0 (l0.length : Int) 0 := by
  refine LimIs.out (?_ : LimIs (fun k => hushref2_Total.l0 k 0 l0 (l0.length : Int) 0) _)
  repeat' first
    | (with_reducible exact hushref2_Total.L0_is _ _ _ _)
    | (with_reducible exact LimIs.const _)
    | (with_reducible refine LimIs.ite ?_ ?_)
    | (with_reducible refine LimIs.bind ?_ (fun _ => ?_))
    | exact hushref2_Total.L0_is _ _ _ _
    | exact LimIs.const _
    | refine LimIs.ite ?_ ?_
    | refine LimIs.bind ?_ (fun _ => ?_)
set_option maxRecDepth 100000 in
theorem hushref1_Divisor.F_eq (a0 : Int) (a1 : Int) : hushref1_Divisor.F a0 a1 = if a0 = 0 then (some a1) else (hushref1_Divisor.L0 a0 a1 0) := by
  refine LimIs.out (?_ : LimIs (fun k => if a0 = 0 then (some a1) else (hushref1_Divisor.l0 k a0 a1 0)) _)
  repeat' first
    | (with_reducible exact hushref1_Divisor.L0_is _ _ _)
    | (with_reducible exact LimIs.const _)
    | (with_reducible refine LimIs.ite ?_ ?_)
    | (with_reducible refine LimIs.bind ?_ (fun _ => ?_))
    | exact hushref1_Divisor.L0_is _ _ _
    | exact LimIs.const _
    | refine LimIs.ite ?_ ?_
    | refine LimIs.bind ?_ (fun _ => ?_)
end Go.Proofs.Ytkemhfhmlcljjaa.PB
end
section
namespace Go.Proofs.Ytkemhfhmlcljjaa.PB
open Go.RowKit Go.Proofs.YtkemhfhmlcljjaaW.PrintWords Go.Proofs.YtkemhfhmlcljjaaW.PrintLast Go.Proofs.YtkemhfhmlcljjaaW.PrintMore
open Go.Proofs.YtkemhfhmlcljjaaW.EvKit
set_option linter.unusedVariables false
noncomputable def ratio_gcd.L0 (x0 : Int) (x1 : Int) : Option (Int) := lim (fun k => ratio_gcd.l0 k x0 x1)
theorem ratio_gcd.L0_is (x0 : Int) (x1 : Int) : LimIs (fun k => ratio_gcd.l0 k x0 x1) (ratio_gcd.L0 x0 x1) := ⟨fun k => (ratio_gcd.mono_l k) x0 x1, rfl⟩
noncomputable def ratio_gcd.F (a0 : Int) (a1 : Int) : Option (Int) := lim (fun k => ratio_gcd.f k a0 a1)
theorem ratio_gcd.F_is (a0 : Int) (a1 : Int) : LimIs (fun k => ratio_gcd.f k a0 a1) (ratio_gcd.F a0 a1) := ⟨fun k => ratio_gcd.mono a0 a1 k, rfl⟩
set_option maxRecDepth 100000 in
theorem ratio_gcd.L0_eq (x0 : Int) (x1 : Int) : ratio_gcd.L0 x0 x1 = if x1 = 0 then (some x0) else (ratio_gcd.L0 x1 (Int.tmod x0 x1)) := by
  refine LimIs.step' (ratio_gcd.L0_is x0 x1).1 (b := fun k => if x1 = 0 then (some x0) else (ratio_gcd.l0 k x1 (Int.tmod x0 x1))) (fun k => by first | rfl | rw [ratio_gcd.l0]) ?_
  repeat' first
    | (with_reducible exact ratio_gcd.L0_is _ _)
    | (with_reducible exact LimIs.const _)
    | (with_reducible refine LimIs.ite ?_ ?_)
    | (with_reducible refine LimIs.bind ?_ (fun _ => ?_))
    | exact ratio_gcd.L0_is _ _
    | exact LimIs.const _
    | refine LimIs.ite ?_ ?_
    | refine LimIs.bind ?_ (fun _ => ?_)
set_option maxRecDepth 100000 in
theorem ratio_gcd.F_eq (a0 : Int) (a1 : Int) : ratio_gcd.F a0 a1 = ratio_gcd.L0 a0 a1 := by
  refine LimIs.out (?_ : LimIs (fun k => ratio_gcd.l0 k a0 a1) _)
  repeat' first
    | (with_reducible exact ratio_gcd.L0_is _ _)
    | (with_reducible exact LimIs.const _)
    | (with_reducible refine LimIs.ite ?_ ?_)
    | (with_reducible refine LimIs.bind ?_ (fun _ => ?_))
    | exact ratio_gcd.L0_is _ _
    | exact LimIs.const _
    | refine LimIs.ite ?_ ?_
    | refine LimIs.bind ?_ (fun _ => ?_)
end Go.Proofs.Ytkemhfhmlcljjaa.PB
end
section
namespace Go.Proofs.Ytkemhfhmlcljjaa.PB
open Go.RowKit Go.Proofs.YtkemhfhmlcljjaaW.PrintWords Go.Proofs.YtkemhfhmlcljjaaW.PrintLast Go.Proofs.YtkemhfhmlcljjaaW.PrintMore
open Go.Proofs.YtkemhfhmlcljjaaW.EvKit
set_option linter.unusedVariables false
noncomputable def ratio_Make.J0 (x0 : Int) (x1 : Int) (x13 : Bool) : Option (Int × Int × Int) := lim (fun k => ratio_Make.j0 k x0 x1 x13)
theorem ratio_Make.J0_is (x0 : Int) (x1 : Int) (x13 : Bool) : LimIs (fun k => ratio_Make.j0 k x0 x1 x13) (ratio_Make.J0 x0 x1 x13) := ⟨fun k => (ratio_Make.mono_l k) x0 x1 x13, rfl⟩
noncomputable def ratio_Make.F (a0 : Int) (a1 : Int) : Option (Int × Int × Int) := lim (fun k => ratio_Make.f k a0 a1)
theorem ratio_Make.F_is (a0 : Int) (a1 : Int) : LimIs (fun k => ratio_Make.f k a0 a1) (ratio_Make.F a0 a1) := ⟨fun k => ratio_Make.mono a0 a1 k, rfl⟩
set_option maxRecDepth 100000 in
theorem ratio_Make.J0_eq (x0 : Int) (x1 : Int) (x13 : Bool) : ratio_Make.J0 x0 x1 x13 = if x13 = true then (some (0, 0, 3)) else ((ratio_gcd.F x0 x1).bind fun t200 => (if t200 = 0 then (none) else (if (wrap64 (Int.tdiv x0 t200)) > 1073741824 then (some (0, 0, 4)) else (if (wrap64 (Int.tdiv x1 t200)) > 1073741824 then (some (0, 0, 4)) else (some (wrap64 (Int.tdiv x0 t200), wrap64 (Int.tdiv x1 t200), 0)))))) := by
  refine LimIs.step' (ratio_Make.J0_is x0 x1 x13).1 (b := fun k => if x13 = true then (some (0, 0, 3)) else ((ratio_gcd.f k x0 x1).bind fun t200 => (if t200 = 0 then (none) else (if (wrap64 (Int.tdiv x0 t200)) > 1073741824 then (some (0, 0, 4)) else (if (wrap64 (Int.tdiv x1 t200)) > 1073741824 then (some (0, 0, 4)) else (some (wrap64 (Int.tdiv x0 t200), wrap64 (Int.tdiv x1 t200), 0))))))) (fun k => by first | rfl | rw [ratio_Make.j0]) ?_
  repeat' first
    | (with_reducible exact ratio_gcd.F_is _ _)
    | (with_reducible exact LimIs.const _)
    | (with_reducible refine LimIs.ite ?_ ?_)
    | (with_reducible refine LimIs.bind ?_ (fun _ => ?_))
    | exact ratio_gcd.F_is _ _
    | exact LimIs.const _
    | refine LimIs.ite ?_ ?_
    | refine LimIs.bind ?_ (fun _ => ?_)
set_option maxRecDepth 100000 in
theorem ratio_Make.F_eq (a0 : Int) (a1 : Int) : ratio_Make.F a0 a1 = if a0 < 0 then (ratio_Make.J0 a0 a1 true) else (ratio_Make.J0 a0 a1 (decide (a1 < 1))) := by
  refine LimIs.out (?_ : LimIs (fun k => if a0 < 0 then (ratio_Make.j0 k a0 a1 true) else (ratio_Make.j0 k a0 a1 (decide (a1 < 1)))) _)
  repeat' first
    | (with_reducible exact ratio_Make.J0_is _ _ _)
    | (with_reducible exact LimIs.const _)
    | (with_reducible refine LimIs.ite ?_ ?_)
    | (with_reducible refine LimIs.bind ?_ (fun _ => ?_))
    | exact ratio_Make.J0_is _ _ _
    | exact LimIs.const _
    | refine LimIs.ite ?_ ?_
    | refine LimIs.bind ?_ (fun _ => ?_)
end Go.Proofs.Ytkemhfhmlcljjaa.PB
end
section
namespace Go.Proofs.Ytkemhfhmlcljjaa.DistPure
set_option linter.unusedVariables false
set_option linter.unusedSimpArgs false
open Go.RowKit Go.Proofs.Ytkemhfhmlcljjaa.PB Go.Proofs.YtkemhfhmlcljjaaW.PrintWords Go.Proofs.YtkemhfhmlcljjaaW.PrintLast Go.Proofs.YtkemhfhmlcljjaaW.PrintMore Go.Proofs.YtkemhfhmlcljjaaW.EvKit
theorem rdAt {xs : List Int} {i : Nat} (h : i < xs.length) : rd xs (i : Int) = xs[i] := by
  rw [rd_nat, List.getD_eq_getElem?_getD, List.getElem?_eq_getElem h]; rfl
theorem rd32At {xs : List S32} {i : Nat} (h : i < xs.length) : rd_T32 xs (i : Int) = xs[i] := by
  unfold rd_T32
  rw [Int.toNat_natCast, List.getD_eq_getElem?_getD, List.getElem?_eq_getElem h]; rfl
theorem w1 {i : Nat} (h : i < 4611686018427387904) : wrap64 ((i : Int) + 1) = ((i + 1 : Nat) : Int) := by rw [wrap64_of (by omega) (by omega)]; rfl
theorem eqF (x y : List Int) (hx : x.length ≤ 1048576) : slices_Equal_int_int.F x y = some (decide (x = y)) :=
  ((slices_Equal_int_int.F_is x y).iff _).2 (eq_is x y (by omega))
theorem rcmp_loop (x y : List Int) (hx : x.length ≤ 1048576) (hy : y.length ≤ 1048576) : ∀ (n i : Nat), i + n = x.length → i ≤ y.length →
    hushref2_Compare.L0 x y (x.length : Int) (i : Int) = some (cmpL (x.drop i) (y.drop i)) := by
  intro n
  induction n with
  | zero =>
    intro i hi h
    rw [hushref2_Compare.L0_eq, if_neg (by omega), List.drop_of_length_le (show x.length ≤ i by omega)]
    rcases Nat.lt_or_ge i y.length with h2 | h2
    · rw [if_pos (by omega), List.drop_eq_getElem_cons h2]
      rfl
    · rw [if_neg (by omega), List.drop_of_length_le h2]
      rfl
  | succ n ih =>
    intro i hi h
    have hxi : i < x.length := by omega
    rw [hushref2_Compare.L0_eq, if_pos (by omega), List.drop_eq_getElem_cons hxi]
    rcases Nat.lt_or_ge i y.length with h2 | h2
    · rw [if_neg (by omega), if_pos (by omega), if_pos (by omega), if_pos (by omega), List.drop_eq_getElem_cons h2, rdAt hxi, rdAt h2, cmpL]
      by_cases c : x[i] = y[i]
      · rw [if_pos c, if_neg (by omega), if_neg (by omega), w1 (by omega)]
        exact ih (i + 1) (by omega) (by omega)
      · rw [if_neg c]
        by_cases c1 : x[i] < y[i]
        · rw [if_pos c1, if_pos c1]
        · rw [if_neg c1, if_neg c1, if_pos (by omega)]
    · rw [if_pos (by omega), List.drop_of_length_le h2]
      rfl
theorem rcmpF (x y : List Int) (hx : x.length ≤ 1048576) (hy : y.length ≤ 1048576) : hushref2_Compare.F x y = some (cmpL x y) := by
  rw [hushref2_Compare.F_eq]
  exact rcmp_loop x y hx hy x.length 0 (by omega) (by omega)
theorem cmpL0 {a b : List Int} : cmpL a b = 0 ↔ a = b := ⟨cmpL_eq a b, fun h => by rw [h, cmpL_self]⟩
def okN (n : Int) : Bool := decide (-1073741824 ≤ n) && decide (n ≤ 1073741824)
def smallB (o : List Int) : Bool := decide (o.length ≤ 16) && o.all okN
theorem small1 (n : Int) : dist_small_1.f n = some (!okN n) := by
  unfold dist_small_1.f okN
  by_cases h : n < -1073741824
  · rw [if_pos h]; congr 1; symm; simp; omega
  · rw [if_neg h]; congr 1; rw [Bool.eq_iff_iff]; simp; omega
theorem index_loop (x : List Int) (hx : x.length ≤ 1048576) : ∀ (n i : Nat), i + n = x.length →
    ∃ r, slices_IndexFunc_int_int.L0 x (x.length : Int) (i : Int) = some r ∧ decide (r ≥ 0) = !((x.drop i).all okN) := by
  intro n
  induction n with
  | zero =>
    intro i hi
    refine ⟨-1, ?_, ?_⟩
    · rw [slices_IndexFunc_int_int.L0_eq, if_neg (by omega)]
    · rw [List.drop_of_length_le (show x.length ≤ i by omega)]; rfl
  | succ n ih =>
    intro i hi
    have hxi : i < x.length := by omega
    rw [slices_IndexFunc_int_int.L0_eq, if_pos (by omega), if_pos (by omega), if_pos (by omega), rdAt hxi, small1, Option.bind_some, List.drop_eq_getElem_cons hxi, List.all_cons]
    cases h : okN x[i] with
    | false => exact ⟨i, if_pos rfl, by simp⟩
    | true =>
      obtain ⟨r, h1, h2⟩ := ih (i + 1) (by omega)
      refine ⟨r, ?_, by rw [h2]; rfl⟩
      rw [if_neg (by decide), w1 (by omega)]
      exact h1
theorem smallF (o : List Int) (h : o.length ≤ 1048576) : dist_small.F o = some (smallB o) := by
  rw [dist_small.F_eq]
  unfold smallB
  by_cases c : o.length ≤ 16
  · obtain ⟨r, h1, h2⟩ := index_loop o h o.length 0 (by omega)
    rw [if_pos (by omega), slices_ContainsFunc_int_int.F_eq, slices_IndexFunc_int_int.F_eq]
    rw [show (0 : Int) = ((0 : Nat) : Int) from rfl, h1]
    rw [Option.bind_some, Option.bind_some]
    have h2 : decide (r ≥ ((0 : Nat) : Int)) = !((o.drop 0).all okN) := h2
    rw [h2, List.drop_zero, decide_eq_true c]
    simp
  · rw [if_neg (by omega), decide_eq_false c]; rfl
theorem rsmall_loop (x : List Int) (hx : x.length ≤ 1048576) : ∀ (n i : Nat), i + n = x.length →
    hushref2_Small.L0 x (x.length : Int) (i : Int) = some ((x.drop i).all okN) := by
  intro n
  induction n with
  | zero =>
    intro i hi
    rw [hushref2_Small.L0_eq, if_neg (by omega), List.drop_of_length_le (show x.length ≤ i by omega)]
    rfl
  | succ n ih =>
    intro i hi
    have hxi : i < x.length := by omega
    rw [hushref2_Small.L0_eq, if_pos (by omega), if_pos (by omega), if_pos (by omega), rdAt hxi, List.drop_eq_getElem_cons hxi, List.all_cons]
    by_cases c1 : x[i] > 1073741824
    · rw [if_pos c1, show okN x[i] = false by unfold okN; simp; omega]; rfl
    · rw [if_neg c1]
      by_cases c2 : x[i] < -1073741824
      · rw [if_pos c2, show okN x[i] = false by unfold okN; simp; omega]; rfl
      · rw [if_neg c2, show okN x[i] = true by unfold okN; simp; omega, Bool.true_and, w1 (by omega)]
        exact ih (i + 1) (by omega)
theorem rsmallF (o : List Int) (h : o.length ≤ 1048576) : hushref2_Small.F o = some (smallB o) := by
  rw [hushref2_Small.F_eq]
  unfold smallB
  by_cases c : o.length ≤ 16
  · rw [if_neg (by omega), decide_eq_true c, Bool.true_and]
    exact rsmall_loop o h o.length 0 (by omega)
  · rw [if_pos (by omega), decide_eq_false c]; rfl
theorem totOf_cons (p : S32) (l : List S32) : totOf (p :: l) = p.f1 + totOf l := rfl
theorem totOf_nil : totOf [] = 0 := rfl
theorem tot_ge : ∀ {l : List S32}, (∀ p ∈ l, 0 ≤ p.f1) → 0 ≤ totOf l
  | [], _ => Int.le_refl _
  | p :: l, h => by
    have := tot_ge (l := l) (fun q hq => h q (by simp [hq]))
    have := h p (by simp)
    rw [totOf_cons]; omega
theorem wOf_le : ∀ {l : List S32}, (∀ p ∈ l, 0 ≤ p.f1) → ∀ o, 0 ≤ wOf l o ∧ wOf l o ≤ totOf l
  | [], _, _ => ⟨Int.le_refl _, Int.le_refl _⟩
  | p :: l, h, o => by
    have := wOf_le (l := l) (fun q hq => h q (by simp [hq])) o
    have := h p (by simp)
    rw [totOf_cons, wOf_cons]
    split <;> omega
theorem tot_bd : ∀ {l : List S32}, (∀ p ∈ l, 0 ≤ p.f1 ∧ p.f1 ≤ 1073741824) → totOf l ≤ 1073741824 * (l.length : Int)
  | [], _ => Int.le_refl _
  | p :: l, h => by
    have := tot_bd (l := l) (fun q hq => h q (by simp [hq]))
    have := h p (by simp)
    rw [totOf_cons, List.length_cons]; omega
theorem totF (l : List S32) (hl : l.length ≤ 1048576) (h0 : ∀ p ∈ l, 0 ≤ p.f1) (ht : totOf l ≤ 4611686018427387904) : dist_total.F l = some (totOf l) :=
  ((dist_total.F_is l).iff _).2 (total_is l (by omega) h0 ht)
theorem mem_at {l : List S32} {i : Nat} (h : i < l.length) : l[i] ∈ l := List.getElem_mem h
theorem drop_in {l : List S32} {i : Nat} {P : S32 → Prop} (h : ∀ p ∈ l, P p) : ∀ p ∈ l.drop i, P p := fun p hp => h p (List.mem_of_mem_drop hp)
theorem rtot_loop (x : List S32) (hx : x.length ≤ 1048576) (h0 : ∀ p ∈ x, 0 ≤ p.f1) : ∀ (n i : Nat) (a : Int), i + n = x.length → 0 ≤ a → a + totOf (x.drop i) ≤ 4611686018427387904 →
    hushref2_Total.L0 a x (x.length : Int) (i : Int) = some (a + totOf (x.drop i)) := by
  intro n
  induction n with
  | zero =>
    intro i a hi _ _
    rw [hushref2_Total.L0_eq, if_neg (by omega), List.drop_of_length_le (show x.length ≤ i by omega), totOf_nil, Int.add_zero]
  | succ n ih =>
    intro i a hi ha hb
    have hxi : i < x.length := by omega
    have hm := h0 _ (mem_at hxi)
    have hr := tot_ge (drop_in (i := i + 1) h0)
    rw [List.drop_eq_getElem_cons hxi, totOf_cons] at hb ⊢
    rw [hushref2_Total.L0_eq, if_pos (by omega), if_pos (by omega), if_pos (by omega), rd32At hxi, w1 (by omega), wrap64_of (by omega) (by omega), ih (i + 1) _ (by omega) (by omega) (by omega)]
    congr 1
    omega
theorem rtotF (l : List S32) (hl : l.length ≤ 1048576) (h0 : ∀ p ∈ l, 0 ≤ p.f1) (ht : totOf l ≤ 4611686018427387904) : hushref2_Total.F l = some (totOf l) := by
  rw [hushref2_Total.F_eq]
  have h := rtot_loop l hl h0 l.length 0 0 (by omega) (by omega) (by rw [List.drop_zero]; omega)
  rw [List.drop_zero, Int.zero_add] at h
  exact h
theorem weight_loop (o : List Int) (ho : o.length ≤ 1048576) (x : List S32) (hx : x.length ≤ 1048576) (h1 : ∀ p ∈ x, p.f0.length ≤ 1048576) (h0 : ∀ p ∈ x, 0 ≤ p.f1) : ∀ (n i : Nat) (a : Int), i + n = x.length → 0 ≤ a → a + totOf (x.drop i) ≤ 4611686018427387904 →
    hushref2_Weight.L0 o a x (x.length : Int) (i : Int) = some (a + wOf (x.drop i) o) := by
  intro n
  induction n with
  | zero =>
    intro i a hi _ _
    rw [hushref2_Weight.L0_eq, if_neg (by omega), List.drop_of_length_le (show x.length ≤ i by omega)]
    congr 1
    exact (Int.add_zero a).symm
  | succ n ih =>
    intro i a hi ha hb
    have hxi : i < x.length := by omega
    have hm := h0 _ (mem_at hxi)
    have hr := tot_ge (drop_in (i := i + 1) h0)
    rw [List.drop_eq_getElem_cons hxi, totOf_cons] at hb
    rw [List.drop_eq_getElem_cons hxi, wOf_cons, hushref2_Weight.L0_eq, if_pos (by omega), if_pos (by omega), if_pos (by omega), rd32At hxi, rcmpF _ _ (h1 _ (mem_at hxi)) ho, Option.bind_some]
    by_cases c : x[i].f0 = o
    · rw [if_pos (cmpL0.2 c), if_pos c, w1 (by omega), wrap64_of (by omega) (by omega), ih (i + 1) _ (by omega) (by omega) (by omega)]
      congr 1
      omega
    · rw [if_neg (fun h => c (cmpL0.1 h)), if_neg c, w1 (by omega), ih (i + 1) _ (by omega) (by omega) (by omega)]
      congr 1
      omega
theorem weightF (l : List S32) (o : List Int) (ho : o.length ≤ 1048576) (hl : l.length ≤ 1048576) (h1 : ∀ p ∈ l, p.f0.length ≤ 1048576) (h0 : ∀ p ∈ l, 0 ≤ p.f1) (ht : totOf l ≤ 4611686018427387904) : hushref2_Weight.F l o = some (wOf l o) := by
  rw [hushref2_Weight.F_eq]
  have h := weight_loop o ho l hl h1 h0 l.length 0 0 (by omega) (by omega) (by rw [List.drop_zero]; omega)
  rw [List.drop_zero, Int.zero_add] at h
  exact h
end Go.Proofs.Ytkemhfhmlcljjaa.DistPure
end
section
namespace Go.Proofs.Ytkemhfhmlcljjaa.DistPure
set_option linter.unusedVariables false
set_option linter.unusedSimpArgs false
open Go.RowKit Go.Proofs.Ytkemhfhmlcljjaa.PB Go.Proofs.YtkemhfhmlcljjaaW.PrintWords Go.Proofs.YtkemhfhmlcljjaaW.PrintLast Go.Proofs.YtkemhfhmlcljjaaW.PrintMore Go.Proofs.YtkemhfhmlcljjaaW.EvKit
theorem gcd_ev : ∀ (n : Nat) (a b : Nat), b ≤ n → Ev (fun k => ratio_gcd.f k (a : Int) (b : Int)) ((Nat.gcd a b : Nat) : Int) := by
  intro n
  induction n with
  | zero =>
    intro a b hb
    obtain rfl : b = 0 := by omega
    refine Ev.step (fun k => ratio_gcd.l0.eq_2 _ _ k) (Ev.pos rfl ?_)
    rw [Nat.gcd_zero_right]
    exact Ev.ret _
  | succ n ih =>
    intro a b hb
    by_cases h0 : b = 0
    · subst h0
      refine Ev.step (fun k => ratio_gcd.l0.eq_2 _ _ k) (Ev.pos rfl ?_)
      rw [Nat.gcd_zero_right]
      exact Ev.ret _
    · refine Ev.step (fun k => ratio_gcd.l0.eq_2 _ _ k) (Ev.neg (by omega) ?_)
      have hlt := Nat.mod_lt a (show b > 0 by omega)
      have h := ih b (a % b) (by omega)
      have e : Int.tmod (a : Int) (b : Int) = ((a % b : Nat) : Int) := by
        rw [Int.tmod_eq_emod_of_nonneg (by omega)]; rfl
      rw [e, Nat.gcd_comm a b, Nat.gcd_rec b a, Nat.gcd_comm]
      exact h
def makeS (u d : Int) : Int × Int × Int :=
  if u < 0 ∨ d < 1 then (0, 0, 3) else
  if u / (Int.gcd u d : Nat) > 1073741824 ∨ d / (Int.gcd u d : Nat) > 1073741824 then (0, 0, 4) else (u / (Int.gcd u d : Nat), d / (Int.gcd u d : Nat), 0)
theorem gcd_pos {u d : Int} (h : 1 ≤ d) : 0 < Int.gcd u d := by
  rcases Nat.eq_zero_or_pos (Int.gcd u d) with h0 | h0
  · have := (Int.gcd_eq_zero_iff.1 h0).2
    omega
  · exact h0
theorem gcd_evI {u d : Int} (hu : 0 ≤ u) (hd : 0 ≤ d) : Ev (fun k => ratio_gcd.f k u d) ((Int.gcd u d : Nat) : Int) := by
  obtain ⟨a, rfl⟩ := Int.eq_ofNat_of_zero_le hu
  obtain ⟨b, rfl⟩ := Int.eq_ofNat_of_zero_le hd
  exact gcd_ev b a b (Nat.le_refl _)
theorem quot {u : Int} {g : Nat} (hu : 0 ≤ u) (hu2 : u ≤ 9223372036854775807) : wrap64 (Int.tdiv u (g : Int)) = u / (g : Int) := by
  rw [Int.tdiv_eq_ediv_of_nonneg hu]
  have h0 : 0 ≤ u / (g : Int) := Int.ediv_nonneg hu (by omega)
  have h1 : u / (g : Int) ≤ u := Int.ediv_le_self _ hu
  exact wrap64_of (by omega) (by omega)
theorem make_j {f : Nat → Option Int} {u d : Int} (hf : 0 ≤ u → 1 ≤ d → Ev f ((Int.gcd u d : Nat) : Int)) (hu : -9223372036854775808 ≤ u ∧ u ≤ 9223372036854775807) (hd : -9223372036854775808 ≤ d ∧ d ≤ 9223372036854775807) (b : Bool) (hb : b = decide (u < 0 ∨ d < 1)) :
    Ev (fun k => if b = true then (some (0, 0, 3)) else ((f k).bind fun t => (if t = 0 then (none) else (if (wrap64 (Int.tdiv u t)) > 1073741824 then (some (0, 0, 4)) else (if (wrap64 (Int.tdiv d t)) > 1073741824 then (some (0, 0, 4)) else (some (wrap64 (Int.tdiv u t), wrap64 (Int.tdiv d t), 0))))))) (makeS u d) := by
  subst hb
  unfold makeS
  by_cases hn : u < 0 ∨ d < 1
  · rw [if_pos hn]
    exact Ev.pos (by simpa using hn) (Ev.ret _)
  · rw [if_neg hn]
    have h1 : 0 ≤ u ∧ 1 ≤ d := by omega
    have hg := gcd_pos (u := u) h1.2
    refine Ev.neg (by simpa using hn) (Ev.bind (hf h1.1 h1.2) (Ev.neg (by omega) ?_))
    rw [quot h1.1 hu.2, quot (by omega) hd.2]
    by_cases c1 : u / (Int.gcd u d : Nat) > 1073741824
    · exact Ev.eq (r := (0, 0, 4)) (Ev.pos c1 (Ev.ret _)) (if_pos (Or.inl c1)).symm
    · by_cases c2 : d / (Int.gcd u d : Nat) > 1073741824
      · exact Ev.eq (r := (0, 0, 4)) (Ev.neg c1 (Ev.pos c2 (Ev.ret _))) (if_pos (Or.inr c2)).symm
      · exact Ev.eq (Ev.neg c1 (Ev.neg c2 (Ev.ret _))) (if_neg (by omega)).symm
theorem make_ev {u d : Int} (hu : -9223372036854775808 ≤ u ∧ u ≤ 9223372036854775807) (hd : -9223372036854775808 ≤ d ∧ d ≤ 9223372036854775807) : Ev (fun k => ratio_Make.f k u d) (makeS u d) := by
  have hj : ∀ b, b = decide (u < 0 ∨ d < 1) → Ev (fun k => ratio_Make.j0 k u d b) (makeS u d) := fun b hb =>
    Ev.step (fun k => ratio_Make.j0.eq_2 _ _ _ k) (make_j (fun h0 h1 => gcd_evI h0 (by omega)) hu hd b hb)
  by_cases h : u < 0
  · exact Ev.pos h (hj true (by simp [h]))
  · exact Ev.neg h (hj _ (by simp [h]))
theorem tm2 (x : Nat) : Int.tmod (x : Int) 2 = ((x % 2 : Nat) : Int) := by rw [Int.tmod_eq_emod_of_nonneg (by omega)]; rfl
theorem td2 (x : Nat) (h : x ≤ 9223372036854775807) : wrap64 (Int.tdiv (x : Int) 2) = ((x / 2 : Nat) : Int) := by
  rw [Int.tdiv_eq_ediv_of_nonneg (by omega), wrap64_of (by omega) (by omega)]; rfl
theorem div_l2 : ∀ (t a : Nat), t ≤ 4611686018427387904 → a * 2 ^ t ≤ 9223372036854775807 → Ev (fun k => hushref1_Divisor.l2 k (a : Int) (t : Int)) ((a * 2 ^ t : Nat) : Int) := by
  intro t
  induction t with
  | zero =>
    intro a _ _
    refine Ev.step (fun k => hushref1_Divisor.l2.eq_2 _ _ k) (Ev.neg (by omega) ?_)
    simpa using Ev.ret _
  | succ t ih =>
    intro a ht h
    have h1 : a ≤ a * 2 ^ t := Nat.le_mul_of_pos_right _ (Nat.two_pow_pos t)
    rw [Nat.pow_succ] at h
    have h2 : a * (2 ^ t * 2) = 2 * a * 2 ^ t := by rw [Nat.mul_comm (2 ^ t) 2, ← Nat.mul_assoc, Nat.mul_comm a 2]
    rw [h2] at h
    have h3 : 2 * a ≤ 2 * a * 2 ^ t := Nat.le_mul_of_pos_right _ (Nat.two_pow_pos t)
    have h4 := ih (2 * a) (by omega) h
    refine Ev.step (fun k => hushref1_Divisor.l2.eq_2 _ _ k) (Ev.pos (by omega) ?_)
    have e1 : wrap64 (2 * (a : Int)) = ((2 * a : Nat) : Int) := by rw [wrap64_of (by omega) (by omega)]; omega
    have e2 : wrap64 (((t + 1 : Nat) : Int) - 1) = ((t : Nat) : Int) := by rw [wrap64_of (by omega) (by omega)]; omega
    simp only [e1, e2]
    rw [Nat.pow_succ, h2]
    exact h4
theorem gcd_half {x y : Nat} (hx : x % 2 = 0) (hy : y % 2 = 1) : Nat.gcd (x / 2) y = Nat.gcd x y := by
  have h : x = 2 * (x / 2) := by omega
  have hc : Nat.Coprime 2 y := by
    unfold Nat.Coprime
    rw [Nat.gcd_rec, hy]
    decide
  rw [h]
  simp only [Nat.mul_div_cancel_left _ (show 0 < 2 by decide)]
  exact (Nat.Coprime.gcd_mul_left_cancel (x / 2) hc).symm
theorem div_l1 : ∀ (n x y t : Nat) {r : Int}, x + y ≤ n → 0 < x → 0 < y → (x % 2 = 1 ∨ y % 2 = 1) → x ≤ 9223372036854775807 → y ≤ 9223372036854775807 →
    Ev (fun k => hushref1_Divisor.l2 k ((Nat.gcd x y : Nat) : Int) (t : Int)) r → Ev (fun k => hushref1_Divisor.l1 k (x : Int) (y : Int) (t : Int)) r := by
  intro n
  induction n with
  | zero => intro x y t r h hx; omega
  | succ n ih =>
    intro x y t r h hx hy ho bx bY hr
    by_cases he : x = y
    · subst he
      rw [Nat.gcd_self] at hr
      exact Ev.step (fun k => hushref1_Divisor.l1.eq_2 _ _ _ k) (Ev.pos rfl hr)
    · refine Ev.step (fun k => hushref1_Divisor.l1.eq_2 _ _ _ k) (Ev.neg (by omega) ?_)
      rw [tm2, tm2, td2 x bx, td2 y bY]
      by_cases h0 : x % 2 = 0
      · refine Ev.pos (by omega) (ih (x / 2) y t (by omega) (by omega) hy (by omega) (by omega) bY ?_)
        rw [gcd_half h0 (by omega)]
        exact hr
      · refine Ev.neg (by omega) ?_
        by_cases h1 : y % 2 = 0
        · refine Ev.pos (by omega) (ih x (y / 2) t (by omega) hx (by omega) (by omega) bx (by omega) ?_)
          rw [Nat.gcd_comm, gcd_half h1 (by omega), Nat.gcd_comm]
          exact hr
        · refine Ev.neg (by omega) ?_
          by_cases h2 : x > y
          · refine Ev.pos (by omega) ?_
            have e : wrap64 ((x : Int) - (y : Int)) = ((x - y : Nat) : Int) := by rw [wrap64_of (by omega) (by omega)]; omega
            rw [e]
            refine ih (x - y) y t (by omega) (by omega) hy (by omega) (by omega) bY ?_
            rw [Nat.gcd_sub_self_left (by omega)]
            exact hr
          · refine Ev.neg (by omega) ?_
            have e : wrap64 ((y : Int) - (x : Int)) = ((y - x : Nat) : Int) := by rw [wrap64_of (by omega) (by omega)]; omega
            rw [e]
            refine ih x (y - x) t (by omega) hx (by omega) (by omega) bx (by omega) ?_
            rw [Nat.gcd_sub_self_right (by omega)]
            exact hr
theorem div_l0 : ∀ (n x y t : Nat) {r : Int}, x ≤ n → 0 < x → 0 < y → x ≤ 9223372036854775807 → y ≤ 9223372036854775807 → t + n ≤ 9223372036854775807 →
    Ev (fun k => hushref1_Divisor.l2 k ((Nat.gcd x y : Nat) : Int) (t : Int)) r → Ev (fun k => hushref1_Divisor.l0 k (x : Int) (y : Int) (t : Int)) r := by
  intro n
  induction n with
  | zero => intro x y t r h hx; omega
  | succ n ih =>
    intro x y t r h hx hy bx bY ht hr
    have hj : (x % 2 = 1 ∨ y % 2 = 1) → Ev (fun k => hushref1_Divisor.j1 k (x : Int) (y : Int) (t : Int)) r := fun ho =>
      Ev.step (fun k => hushref1_Divisor.j1.eq_2 _ _ _ k) (div_l1 (x + y) x y t (Nat.le_refl _) hx hy ho bx bY hr)
    refine Ev.step (fun k => hushref1_Divisor.l0.eq_2 _ _ _ k) ?_
    rw [tm2, tm2, td2 x bx, td2 y bY]
    by_cases h0 : x % 2 = 0
    · by_cases h1 : y % 2 = 0
      · have e : wrap64 ((t : Int) + 1) = ((t + 1 : Nat) : Int) := by rw [wrap64_of (by omega) (by omega)]; omega
        refine Ev.pos (by omega) (Ev.pos (by omega) ?_)
        rw [e]
        refine ih (x / 2) (y / 2) (t + 1) (by omega) (by omega) (by omega) (by omega) (by omega) (by omega) ?_
        have hg : Nat.gcd x y = 2 * Nat.gcd (x / 2) (y / 2) := by
          rw [← Nat.gcd_mul_left]
          congr 1 <;> omega
        have hle : Nat.gcd x y ≤ x := Nat.gcd_le_left y hx
        refine Ev.step (fun k => hushref1_Divisor.l2.eq_2 _ _ k) (Ev.pos (by omega) ?_)
        have e1 : wrap64 (2 * ((Nat.gcd (x / 2) (y / 2) : Nat) : Int)) = ((Nat.gcd x y : Nat) : Int) := by rw [wrap64_of (by omega) (by omega)]; omega
        have e2 : wrap64 (((t + 1 : Nat) : Int) - 1) = ((t : Nat) : Int) := by rw [wrap64_of (by omega) (by omega)]; omega
        simp only [e1, e2]
        exact hr
      · exact Ev.pos (by omega) (Ev.neg (by omega) (hj (by omega)))
    · exact Ev.neg (by omega) (hj (by omega))
theorem div_ev {u d : Int} (hu : 0 ≤ u) (hd : 1 ≤ d) (bu : u ≤ 9223372036854775807) (bd : d ≤ 9223372036854775807) : Ev (fun k => hushref1_Divisor.f k u d) ((Int.gcd u d : Nat) : Int) := by
  obtain ⟨x, rfl⟩ := Int.eq_ofNat_of_zero_le hu
  obtain ⟨y, rfl⟩ := Int.eq_ofNat_of_zero_le (show 0 ≤ d by omega)
  by_cases h0 : x = 0
  · subst h0
    refine Ev.pos rfl (Ev.eq (Ev.ret _) ?_)
    simp
  · refine Ev.neg (by omega) ?_
    show Ev (fun k => hushref1_Divisor.l0 k (x : Int) (y : Int) 0) ((Nat.gcd x y : Nat) : Int)
    refine div_l0 x x y 0 (Nat.le_refl _) (by omega) (by omega) (by omega) (by omega) (by omega) ?_
    refine Ev.eq (div_l2 0 (Nat.gcd x y) (by omega) ?_) (by simp)
    have := Nat.gcd_le_left y (show 0 < x by omega)
    simp
    omega
theorem divF {u d : Int} (hu : 0 ≤ u) (hd : 1 ≤ d) (bu : u ≤ 9223372036854775807) (bd : d ≤ 9223372036854775807) : hushref1_Divisor.F u d = some ((Int.gcd u d : Nat) : Int) := (hushref1_Divisor.F_is u d).of_ev (div_ev hu hd bu bd)
theorem makeF {u d : Int} (hu : -9223372036854775808 ≤ u ∧ u ≤ 9223372036854775807) (hd : -9223372036854775808 ≤ d ∧ d ≤ 9223372036854775807) : ratio_Make.F u d = some (makeS u d) := (ratio_Make.F_is u d).of_ev (make_ev hu hd)
end Go.Proofs.Ytkemhfhmlcljjaa.DistPure
end
section
namespace Go.Proofs.Ytkemhfhmlcljjaa.PB
open Go.RowKit Go.Proofs.YtkemhfhmlcljjaaW.PrintWords Go.Proofs.YtkemhfhmlcljjaaW.PrintLast Go.Proofs.YtkemhfhmlcljjaaW.PrintMore
open Go.Proofs.YtkemhfhmlcljjaaW.EvKit
set_option linter.unusedVariables false
noncomputable def hushref2_least.L0 (x1 : List Int) (x2 : Bool) (x8 : List Int) (x9 : Bool) (x12 : List (S32)) (x13 : Int) (x14 : Int) : Option (List Int × Bool) := lim (fun k => hushref2_least.l0 k x1 x2 x8 x9 x12 x13 x14)
theorem hushref2_least.L0_is (x1 : List Int) (x2 : Bool) (x8 : List Int) (x9 : Bool) (x12 : List (S32)) (x13 : Int) (x14 : Int) : LimIs (fun k => hushref2_least.l0 k x1 x2 x8 x9 x12 x13 x14) (hushref2_least.L0 x1 x2 x8 x9 x12 x13 x14) := ⟨fun k => (hushref2_least.mono_l k) x1 x2 x8 x9 x12 x13 x14, rfl⟩
noncomputable def hushref2_least.F (l0 : List (S32)) (l1 : List Int) (a2 : Bool) : Option (List Int × Bool) := lim (fun k => hushref2_least.f k l0 l1 a2)
theorem hushref2_least.F_is (l0 : List (S32)) (l1 : List Int) (a2 : Bool) : LimIs (fun k => hushref2_least.f k l0 l1 a2) (hushref2_least.F l0 l1 a2) := ⟨fun k => hushref2_least.mono l0 l1 a2 k, rfl⟩
set_option maxRecDepth 100000 in
theorem hushref2_least.L0_eq (x1 : List Int) (x2 : Bool) (x8 : List Int) (x9 : Bool) (x12 : List (S32)) (x13 : Int) (x14 : Int) : hushref2_least.L0 x1 x2 x8 x9 x12 x13 x14 = if x14 < x13 then (if 0 ≤ x14 then (if x14 < (x12.length : Int) then (if ((rd_T32 x12 x14).f1) > 0 then (if x2 = true then ((hushref2_Compare.F ((rd_T32 x12 x14).f0) x1).bind fun t139 => (if t139 > 0 then (if x9 = true then ((hushref2_Compare.F ((rd_T32 x12 x14).f0) x8).bind fun t140 => (if t140 < 0 then (hushref2_least.L0 x1 x2 ((rd_T32 x12 x14).f0) true x12 x13 (wrap64 (x14 + 1))) else (hushref2_least.L0 x1 x2 x8 x9 x12 x13 (wrap64 (x14 + 1))))) else (hushref2_least.L0 x1 x2 ((rd_T32 x12 x14).f0) true x12 x13 (wrap64 (x14 + 1)))) else (hushref2_least.L0 x1 x2 x8 x9 x12 x13 (wrap64 (x14 + 1))))) else (if x9 = true then ((hushref2_Compare.F ((rd_T32 x12 x14).f0) x8).bind fun t141 => (if t141 < 0 then (hushref2_least.L0 x1 x2 ((rd_T32 x12 x14).f0) true x12 x13 (wrap64 (x14 + 1))) else (hushref2_least.L0 x1 x2 x8 x9 x12 x13 (wrap64 (x14 + 1))))) else (hushref2_least.L0 x1 x2 ((rd_T32 x12 x14).f0) true x12 x13 (wrap64 (x14 + 1))))) else (hushref2_least.L0 x1 x2 x8 x9 x12 x13 (wrap64 (x14 + 1)))) else (none)) else (none)) else (some (x8, x9)) := by
  refine LimIs.step' (hushref2_least.L0_is x1 x2 x8 x9 x12 x13 x14).1 (b := fun k => if x14 < x13 then (if 0 ≤ x14 then (if x14 < (x12.length : Int) then (if ((rd_T32 x12 x14).f1) > 0 then (if x2 = true then ((hushref2_Compare.f k ((rd_T32 x12 x14).f0) x1).bind fun t139 => (if t139 > 0 then (if x9 = true then ((hushref2_Compare.f k ((rd_T32 x12 x14).f0) x8).bind fun t140 => (if t140 < 0 then (hushref2_least.l0 k x1 x2 ((rd_T32 x12 x14).f0) true x12 x13 (wrap64 (x14 + 1))) else (hushref2_least.l0 k x1 x2 x8 x9 x12 x13 (wrap64 (x14 + 1))))) else (hushref2_least.l0 k x1 x2 ((rd_T32 x12 x14).f0) true x12 x13 (wrap64 (x14 + 1)))) else (hushref2_least.l0 k x1 x2 x8 x9 x12 x13 (wrap64 (x14 + 1))))) else (if x9 = true then ((hushref2_Compare.f k ((rd_T32 x12 x14).f0) x8).bind fun t141 => (if t141 < 0 then (hushref2_least.l0 k x1 x2 ((rd_T32 x12 x14).f0) true x12 x13 (wrap64 (x14 + 1))) else (hushref2_least.l0 k x1 x2 x8 x9 x12 x13 (wrap64 (x14 + 1))))) else (hushref2_least.l0 k x1 x2 ((rd_T32 x12 x14).f0) true x12 x13 (wrap64 (x14 + 1))))) else (hushref2_least.l0 k x1 x2 x8 x9 x12 x13 (wrap64 (x14 + 1)))) else (none)) else (none)) else (some (x8, x9))) (fun k => by first | rfl | rw [hushref2_least.l0]) ?_
  repeat' first
    | (with_reducible exact hushref2_Compare.F_is _ _)
    | (with_reducible exact hushref2_least.L0_is _ _ _ _ _ _ _)
    | (with_reducible exact LimIs.const _)
    | (with_reducible refine LimIs.ite ?_ ?_)
    | (with_reducible refine LimIs.bind ?_ (fun _ => ?_))
    | exact hushref2_Compare.F_is _ _
    | exact hushref2_least.L0_is _ _ _ _ _ _ _
    | exact LimIs.const _
    | refine LimIs.ite ?_ ?_
    | refine LimIs.bind ?_ (fun _ => ?_)
set_option maxRecDepth 100000 in
theorem hushref2_least.F_eq (l0 : List (S32)) (l1 : List Int) (a2 : Bool) : hushref2_least.F l0 l1 a2 = hushref2_least.L0 l1 a2 ([] : List Int) false l0 (l0.length : Int) 0 := by
  refine LimIs.out (?_ : LimIs (fun k => hushref2_least.l0 k l1 a2 ([] : List Int) false l0 (l0.length : Int) 0) _)
  repeat' first
    | (with_reducible exact hushref2_least.L0_is _ _ _ _ _ _ _)
    | (with_reducible exact LimIs.const _)
    | (with_reducible refine LimIs.ite ?_ ?_)
    | (with_reducible refine LimIs.bind ?_ (fun _ => ?_))
    | exact hushref2_least.L0_is _ _ _ _ _ _ _
    | exact LimIs.const _
    | refine LimIs.ite ?_ ?_
    | refine LimIs.bind ?_ (fun _ => ?_)
end Go.Proofs.Ytkemhfhmlcljjaa.PB
end
section
namespace Go.Proofs.Ytkemhfhmlcljjaa.PB
open Go.RowKit Go.Proofs.YtkemhfhmlcljjaaW.PrintWords Go.Proofs.YtkemhfhmlcljjaaW.PrintLast Go.Proofs.YtkemhfhmlcljjaaW.PrintMore
open Go.Proofs.YtkemhfhmlcljjaaW.EvKit
set_option linter.unusedVariables false
noncomputable def hushref2_Tidy.L0 (x0 : List (S32)) (x4 : List (S32)) (x5 : List Int) (x6 : Bool) : Option ((List (S32)) × Int) := lim (fun k => hushref2_Tidy.l0 k x0 x4 x5 x6)
theorem hushref2_Tidy.L0_is (x0 : List (S32)) (x4 : List (S32)) (x5 : List Int) (x6 : Bool) : LimIs (fun k => hushref2_Tidy.l0 k x0 x4 x5 x6) (hushref2_Tidy.L0 x0 x4 x5 x6) := ⟨fun k => (hushref2_Tidy.mono_l k).1 x0 x4 x5 x6, rfl⟩
noncomputable def hushref2_Tidy.L1 (x4 : List (S32)) (x7 : Int) (x38 : List (S32)) (x39 : Int) (x40 : Int) : Option ((List (S32)) × Int) := lim (fun k => hushref2_Tidy.l1 k x4 x7 x38 x39 x40)
theorem hushref2_Tidy.L1_is (x4 : List (S32)) (x7 : Int) (x38 : List (S32)) (x39 : Int) (x40 : Int) : LimIs (fun k => hushref2_Tidy.l1 k x4 x7 x38 x39 x40) (hushref2_Tidy.L1 x4 x7 x38 x39 x40) := ⟨fun k => (hushref2_Tidy.mono_l k).2.1 x4 x7 x38 x39 x40, rfl⟩
noncomputable def hushref2_Tidy.J2 (x4 : List (S32)) (x7 : Int) (x58 : Bool) : Option ((List (S32)) × Int) := lim (fun k => hushref2_Tidy.j2 k x4 x7 x58)
theorem hushref2_Tidy.J2_is (x4 : List (S32)) (x7 : Int) (x58 : Bool) : LimIs (fun k => hushref2_Tidy.j2 k x4 x7 x58) (hushref2_Tidy.J2 x4 x7 x58) := ⟨fun k => (hushref2_Tidy.mono_l k).2.2.1 x4 x7 x58, rfl⟩
noncomputable def hushref2_Tidy.L2 (x4 : List (S32)) (x7 : Int) (x60 : Int) (x61 : Int) : Option ((List (S32)) × Int) := lim (fun k => hushref2_Tidy.l2 k x4 x7 x60 x61)
theorem hushref2_Tidy.L2_is (x4 : List (S32)) (x7 : Int) (x60 : Int) (x61 : Int) : LimIs (fun k => hushref2_Tidy.l2 k x4 x7 x60 x61) (hushref2_Tidy.L2 x4 x7 x60 x61) := ⟨fun k => (hushref2_Tidy.mono_l k).2.2.2 x4 x7 x60 x61, rfl⟩
noncomputable def hushref2_Tidy.F (l0 : List (S32)) : Option ((List (S32)) × Int) := lim (fun k => hushref2_Tidy.f k l0)
theorem hushref2_Tidy.F_is (l0 : List (S32)) : LimIs (fun k => hushref2_Tidy.f k l0) (hushref2_Tidy.F l0) := ⟨fun k => hushref2_Tidy.mono l0 k, rfl⟩
set_option maxRecDepth 100000 in
theorem hushref2_Tidy.L0_eq (x0 : List (S32)) (x4 : List (S32)) (x5 : List Int) (x6 : Bool) : hushref2_Tidy.L0 x0 x4 x5 x6 = if x6 = true then ((hushref2_Weight.F x0 x5).bind fun t146 => (if x4.length < 4398046511104 then ((hushref2_least.F x0 x5 true).bind fun bt150 => (hushref2_Tidy.L0 x0 (x4 ++ [(⟨x5, t146⟩ : S32)]) bt150.1 bt150.2)) else (none))) else (if (x4.length : Int) = 0 then (some (([] : List (S32)), 6)) else (if 0 < (x4.length : Int) then (hushref2_Tidy.L1 x4 ((rd_T32 x4 0).f1) x4 (x4.length : Int) 0) else (none))) := by
  refine LimIs.step' (hushref2_Tidy.L0_is x0 x4 x5 x6).1 (b := fun k => if x6 = true then ((hushref2_Weight.f k x0 x5).bind fun t146 => (if x4.length < 4398046511104 then ((hushref2_least.f k x0 x5 true).bind fun bt150 => (hushref2_Tidy.l0 k x0 (x4 ++ [(⟨x5, t146⟩ : S32)]) bt150.1 bt150.2)) else (none))) else (if (x4.length : Int) = 0 then (some (([] : List (S32)), 6)) else (if 0 < (x4.length : Int) then (hushref2_Tidy.l1 k x4 ((rd_T32 x4 0).f1) x4 (x4.length : Int) 0) else (none)))) (fun k => by first | rfl | rw [hushref2_Tidy.l0]) ?_
  repeat' first
    | (with_reducible exact hushref2_Weight.F_is _ _)
    | (with_reducible exact hushref2_least.F_is _ _ _)
    | (with_reducible exact hushref2_Tidy.L0_is _ _ _ _)
    | (with_reducible exact hushref2_Tidy.L1_is _ _ _ _ _)
    | (with_reducible exact LimIs.const _)
    | (with_reducible refine LimIs.ite ?_ ?_)
    | (with_reducible refine LimIs.bind ?_ (fun _ => ?_))
    | exact hushref2_Weight.F_is _ _
    | exact hushref2_least.F_is _ _ _
    | exact hushref2_Tidy.L0_is _ _ _ _
    | exact hushref2_Tidy.L1_is _ _ _ _ _
    | exact LimIs.const _
    | refine LimIs.ite ?_ ?_
    | refine LimIs.bind ?_ (fun _ => ?_)
set_option maxRecDepth 100000 in
theorem hushref2_Tidy.L1_eq (x4 : List (S32)) (x7 : Int) (x38 : List (S32)) (x39 : Int) (x40 : Int) : hushref2_Tidy.L1 x4 x7 x38 x39 x40 = if x40 < x39 then (if 0 ≤ x40 then (if x40 < (x38.length : Int) then ((hushref1_Divisor.F ((rd_T32 x38 x40).f1) x7).bind fun t157 => (hushref2_Tidy.L1 x4 t157 x38 x39 (wrap64 (x40 + 1)))) else (none)) else (none)) else ((hushref2_Total.F x4).bind fun t158 => (if x7 = 0 then (none) else (if (wrap64 (Int.tdiv t158 x7)) > 1073741824 then (hushref2_Tidy.J2 x4 x7 true) else (hushref2_Tidy.J2 x4 x7 (decide ((x4.length : Int) > 4096)))))) := by
  refine LimIs.step' (hushref2_Tidy.L1_is x4 x7 x38 x39 x40).1 (b := fun k => if x40 < x39 then (if 0 ≤ x40 then (if x40 < (x38.length : Int) then ((hushref1_Divisor.f k ((rd_T32 x38 x40).f1) x7).bind fun t157 => (hushref2_Tidy.l1 k x4 t157 x38 x39 (wrap64 (x40 + 1)))) else (none)) else (none)) else ((hushref2_Total.f k x4).bind fun t158 => (if x7 = 0 then (none) else (if (wrap64 (Int.tdiv t158 x7)) > 1073741824 then (hushref2_Tidy.j2 k x4 x7 true) else (hushref2_Tidy.j2 k x4 x7 (decide ((x4.length : Int) > 4096))))))) (fun k => by first | rfl | rw [hushref2_Tidy.l1]) ?_
  repeat' first
    | (with_reducible exact hushref1_Divisor.F_is _ _)
    | (with_reducible exact hushref2_Tidy.L1_is _ _ _ _ _)
    | (with_reducible exact hushref2_Total.F_is _)
    | (with_reducible exact hushref2_Tidy.J2_is _ _ _)
    | (with_reducible exact LimIs.const _)
    | (with_reducible refine LimIs.ite ?_ ?_)
    | (with_reducible refine LimIs.bind ?_ (fun _ => ?_))
    | exact hushref1_Divisor.F_is _ _
    | exact hushref2_Tidy.L1_is _ _ _ _ _
    | exact hushref2_Total.F_is _
    | exact hushref2_Tidy.J2_is _ _ _
    | exact LimIs.const _
    | refine LimIs.ite ?_ ?_
    | refine LimIs.bind ?_ (fun _ => ?_)
set_option maxRecDepth 100000 in
theorem hushref2_Tidy.J2_eq (x4 : List (S32)) (x7 : Int) (x58 : Bool) : hushref2_Tidy.J2 x4 x7 x58 = if x58 = true then (some (([] : List (S32)), 4)) else (hushref2_Tidy.L2 x4 x7 (x4.length : Int) 0) := by
  refine LimIs.step' (hushref2_Tidy.J2_is x4 x7 x58).1 (b := fun k => if x58 = true then (some (([] : List (S32)), 4)) else (hushref2_Tidy.l2 k x4 x7 (x4.length : Int) 0)) (fun k => by first | rfl | rw [hushref2_Tidy.j2]) ?_
  repeat' first
    | (with_reducible exact hushref2_Tidy.L2_is _ _ _ _)
    | (with_reducible exact LimIs.const _)
    | (with_reducible refine LimIs.ite ?_ ?_)
    | (with_reducible refine LimIs.bind ?_ (fun _ => ?_))
    | exact hushref2_Tidy.L2_is _ _ _ _
    | exact LimIs.const _
    | refine LimIs.ite ?_ ?_
    | refine LimIs.bind ?_ (fun _ => ?_)
set_option maxRecDepth 100000 in
theorem hushref2_Tidy.L2_eq (x4 : List (S32)) (x7 : Int) (x60 : Int) (x61 : Int) : hushref2_Tidy.L2 x4 x7 x60 x61 = if x61 < x60 then (if 0 ≤ x61 then (if x61 < (x4.length : Int) then (if x7 = 0 then (none) else (hushref2_Tidy.L2 (x4.set (x61 : Int).toNat (⟨(rd_T32 x4 x61).f0, wrap64 (Int.tdiv ((rd_T32 x4 x61).f1) x7)⟩ : S32)) x7 x60 (wrap64 (x61 + 1)))) else (none)) else (none)) else (some (x4, 0)) := by
  refine LimIs.step' (hushref2_Tidy.L2_is x4 x7 x60 x61).1 (b := fun k => if x61 < x60 then (if 0 ≤ x61 then (if x61 < (x4.length : Int) then (if x7 = 0 then (none) else (hushref2_Tidy.l2 k (x4.set (x61 : Int).toNat (⟨(rd_T32 x4 x61).f0, wrap64 (Int.tdiv ((rd_T32 x4 x61).f1) x7)⟩ : S32)) x7 x60 (wrap64 (x61 + 1)))) else (none)) else (none)) else (some (x4, 0))) (fun k => by first | rfl | rw [hushref2_Tidy.l2]) ?_
  repeat' first
    | (with_reducible exact hushref2_Tidy.L2_is _ _ _ _)
    | (with_reducible exact LimIs.const _)
    | (with_reducible refine LimIs.ite ?_ ?_)
    | (with_reducible refine LimIs.bind ?_ (fun _ => ?_))
    | exact hushref2_Tidy.L2_is _ _ _ _
    | exact LimIs.const _
    | refine LimIs.ite ?_ ?_
    | refine LimIs.bind ?_ (fun _ => ?_)
set_option maxRecDepth 100000 in
theorem hushref2_Tidy.F_eq (l0 : List (S32)) : hushref2_Tidy.F l0 = (hushref2_least.F l0 ([] : List Int) false).bind fun bt142 => (hushref2_Tidy.L0 l0 ([] : List (S32)) bt142.1 bt142.2) := by
  refine LimIs.out (?_ : LimIs (fun k => (hushref2_least.f k l0 ([] : List Int) false).bind fun bt142 => (hushref2_Tidy.l0 k l0 ([] : List (S32)) bt142.1 bt142.2)) _)
  repeat' first
    | (with_reducible exact hushref2_least.F_is _ _ _)
    | (with_reducible exact hushref2_Tidy.L0_is _ _ _ _)
    | (with_reducible exact LimIs.const _)
    | (with_reducible refine LimIs.ite ?_ ?_)
    | (with_reducible refine LimIs.bind ?_ (fun _ => ?_))
    | exact hushref2_least.F_is _ _ _
    | exact hushref2_Tidy.L0_is _ _ _ _
    | exact LimIs.const _
    | refine LimIs.ite ?_ ?_
    | refine LimIs.bind ?_ (fun _ => ?_)
end Go.Proofs.Ytkemhfhmlcljjaa.PB
end
section
namespace Go.Proofs.Ytkemhfhmlcljjaa.DistPure
set_option linter.unusedVariables false
set_option linter.unusedSimpArgs false
open Go.RowKit Go.Proofs.Ytkemhfhmlcljjaa.PB Go.Proofs.YtkemhfhmlcljjaaW.PrintWords Go.Proofs.YtkemhfhmlcljjaaW.PrintLast Go.Proofs.YtkemhfhmlcljjaaW.PrintMore Go.Proofs.YtkemhfhmlcljjaaW.EvKit
def Outs (l : List S32) (x : List Int) : Prop := ∃ p ∈ l, p.f0 = x ∧ 0 < p.f1
theorem wOf_ge : ∀ {l : List S32}, (∀ p ∈ l, 0 ≤ p.f1) → ∀ {p : S32}, p ∈ l → p.f1 ≤ wOf l p.f0
  | [], _, p, h => by cases h
  | q :: l, h0, p, h => by
    have h1 := h0 q (by simp)
    have h2 : ∀ p ∈ l, 0 ≤ p.f1 := fun x hx => h0 x (by simp [hx])
    rw [wOf_cons]
    rcases List.mem_cons.1 h with e | e
    · subst e
      rw [if_pos rfl]
      have := (wOf_le h2 p.f0).1
      omega
    · have := wOf_ge h2 e
      split <;> omega
theorem wOf_some : ∀ {l : List S32}, (∀ p ∈ l, 0 ≤ p.f1) → ∀ {o : List Int}, 0 < wOf l o → Outs l o
  | [], _, _, h => absurd h (Int.lt_irrefl 0)
  | q :: l, h0, o, h => by
    have h1 := h0 q (by simp)
    rw [wOf_cons] at h
    by_cases c : q.f0 = o ∧ 0 < q.f1
    · exact ⟨q, by simp, c⟩
    · have h2 : 0 < wOf l o := by
        by_cases e : q.f0 = o
        · rw [if_pos e] at h
          have : ¬ 0 < q.f1 := fun x => c ⟨e, x⟩
          omega
        · rw [if_neg e] at h; omega
      obtain ⟨p, hp, e⟩ := wOf_some (fun x hx => h0 x (by simp [hx])) h2
      exact ⟨p, by simp [hp], e⟩
theorem outs_iff {l D : List S32} (h : Canon l D) (h0 : ∀ p ∈ l, 0 ≤ p.f1) (x : List Int) : Outs l x ↔ ∃ q ∈ D, q.f0 = x := by
  have d0 : ∀ p ∈ D, 0 ≤ p.f1 := fun p hp => Int.le_of_lt (h.pos p hp)
  constructor
  · rintro ⟨p, hp, e, hpos⟩
    have := wOf_ge h0 hp
    rw [e, ← h.w] at this
    exact wOf_mem (by omega)
  · rintro ⟨q, hq, e⟩
    have := wOf_ge d0 hq
    have := h.pos q hq
    subst e
    exact wOf_some h0 (by rw [← h.w]; omega)
def Fit (l : List S32) (a : List Int) (b : Bool) (x : List Int) : Prop := Outs l x ∧ (b = true → cmpL x a > 0)
def Least (S : List Int → Prop) (o : List Int) (f : Bool) : Prop := (f = true → S o ∧ ∀ x, S x → cmpL o x ≤ 0) ∧ (f = false → ∀ x, ¬ S x)
theorem Least.new {S S' : List Int → Prop} {o v : List Int} (h : Least S o false) (hS : ∀ x, S' x ↔ S x ∨ x = v) : Least S' v true :=
  ⟨fun _ => ⟨(hS v).2 (.inr rfl), fun x hx => by
    rcases (hS x).1 hx with h1 | h1
    · exact absurd h1 (h.2 rfl x)
    · rw [h1, cmpL_self]; exact Int.le_refl 0⟩, fun c => by cases c⟩
theorem Least.lt {S S' : List Int → Prop} {o v : List Int} (h : Least S o true) (c : cmpL v o < 0) (hS : ∀ x, S' x ↔ S x ∨ x = v) : Least S' v true :=
  ⟨fun _ => ⟨(hS v).2 (.inr rfl), fun x hx => by
    rcases (hS x).1 hx with h1 | h1
    · exact cmpL_le_trans _ _ _ (Int.le_of_lt c) ((h.1 rfl).2 x h1)
    · rw [h1, cmpL_self]; exact Int.le_refl 0⟩, fun c => by cases c⟩
theorem Least.ge {S S' : List Int → Prop} {o v : List Int} (h : Least S o true) (c : ¬ cmpL v o < 0) (hS : ∀ x, S' x ↔ S x ∨ x = v) : Least S' o true :=
  ⟨fun _ => ⟨(hS o).2 (.inl (h.1 rfl).1), fun x hx => by
    rcases (hS x).1 hx with h1 | h1
    · exact (h.1 rfl).2 x h1
    · have := cmpL_swap o v
      rw [h1]; omega⟩, fun c => by cases c⟩
theorem Least.same {S S' : List Int → Prop} {o : List Int} {f : Bool} (h : Least S o f) (hS : ∀ x, S' x ↔ S x) : Least S' o f :=
  ⟨fun c => ⟨(hS o).2 (h.1 c).1, fun x hx => (h.1 c).2 x ((hS x).1 hx)⟩, fun c x hx => h.2 c x ((hS x).1 hx)⟩
theorem outs_app (l : List S32) (p : S32) (x : List Int) : Outs (l ++ [p]) x ↔ Outs l x ∨ (x = p.f0 ∧ 0 < p.f1) := by
  constructor
  · rintro ⟨q, hq, e⟩
    rcases List.mem_append.1 hq with h | h
    · exact .inl ⟨q, h, e⟩
    · rw [List.mem_singleton.1 h] at e
      exact .inr ⟨e.1.symm, e.2⟩
  · rintro (⟨q, hq, e⟩ | ⟨e, h⟩)
    · exact ⟨q, by simp [hq], e⟩
    · exact ⟨p, by simp, e.symm, h⟩
theorem fit_same {l : List S32} {a : List Int} {b : Bool} {p : S32} (c : 0 < p.f1 → b = true → ¬ cmpL p.f0 a > 0) (c2 : 0 < p.f1 → b = true) (x : List Int) : Fit (l ++ [p]) a b x ↔ Fit l a b x := by
  unfold Fit
  rw [outs_app]
  constructor
  · rintro ⟨h | ⟨rfl, h⟩, k⟩
    · exact ⟨h, k⟩
    · exact absurd (k (c2 h)) (c h (c2 h))
  · rintro ⟨h, k⟩
    exact ⟨.inl h, k⟩
theorem fit_new {l : List S32} {a : List Int} {b : Bool} {p : S32} (c : 0 < p.f1) (k : b = true → cmpL p.f0 a > 0) (x : List Int) : Fit (l ++ [p]) a b x ↔ Fit l a b x ∨ x = p.f0 := by
  unfold Fit
  rw [outs_app]
  constructor
  · rintro ⟨h | ⟨rfl, h⟩, k⟩
    · exact .inl ⟨h, k⟩
    · exact .inr rfl
  · rintro (⟨h, k⟩ | rfl)
    · exact ⟨.inl h, k⟩
    · exact ⟨.inr ⟨rfl, c⟩, k⟩
theorem take_one {l : List S32} {i : Nat} (h : i < l.length) : l.take (i + 1) = l.take i ++ [l[i]] := by
  rw [List.take_add_one, List.getElem?_eq_getElem h]; rfl
theorem least_loop (l : List S32) (a : List Int) (b : Bool) (hl : l.length ≤ 1048576) (h1 : ∀ p ∈ l, p.f0.length ≤ 1048576) (ha : a.length ≤ 1048576) : ∀ (n i : Nat) (o : List Int) (f : Bool), i + n = l.length → Least (Fit (l.take i) a b) o f →
    ∃ o' f', hushref2_least.L0 a b o f l (l.length : Int) (i : Int) = some (o', f') ∧ Least (Fit l a b) o' f' := by
  intro n
  induction n with
  | zero =>
    intro i o f hi h
    rw [List.take_of_length_le (show l.length ≤ i by omega)] at h
    exact ⟨o, f, by rw [hushref2_least.L0_eq, if_neg (by omega)], h⟩
  | succ n ih =>
    intro i o f hi h
    have hxi : i < l.length := by omega
    have hp := h1 _ (mem_at hxi)
    have e := take_one hxi
    have next : ∀ o f, Least (Fit (l.take i ++ [l[i]]) a b) o f → ∃ o' f', hushref2_least.L0 a b o f l (l.length : Int) (wrap64 ((i : Int) + 1)) = some (o', f') ∧ Least (Fit l a b) o' f' := fun o f h' => by
      rw [w1 (by omega)]
      exact ih (i + 1) o f (by omega) (by rw [e]; exact h')
    rw [hushref2_least.L0_eq, if_pos (by omega), if_pos (by omega), if_pos (by omega), rd32At hxi]
    by_cases c1 : l[i].f1 > 0
    · rw [if_pos c1]
      have body : (b = true → cmpL l[i].f0 a > 0) → ∃ o' f', (if f = true then ((hushref2_Compare.F l[i].f0 o).bind fun t140 => (if t140 < 0 then (hushref2_least.L0 a b l[i].f0 true l (l.length : Int) (wrap64 ((i : Int) + 1))) else (hushref2_least.L0 a b o f l (l.length : Int) (wrap64 ((i : Int) + 1))))) else (hushref2_least.L0 a b l[i].f0 true l (l.length : Int) (wrap64 ((i : Int) + 1)))) = some (o', f') ∧ Least (Fit l a b) o' f' := by
        intro k
        have hn := fit_new (l := l.take i) c1 k
        cases f with
        | false =>
          rw [if_neg (by decide)]
          exact next _ _ (h.new hn)
        | true =>
          have ho : o.length ≤ 1048576 := by
            obtain ⟨q, hq, e, _⟩ := (h.1 rfl).1.1
            rw [← e]
            exact h1 q (List.mem_of_mem_take hq)
          rw [if_pos rfl, rcmpF _ _ hp ho, Option.bind_some]
          by_cases c2 : cmpL l[i].f0 o < 0
          · rw [if_pos c2]
            exact next _ _ (h.lt c2 hn)
          · rw [if_neg c2]
            exact next _ _ (h.ge c2 hn)
      cases b with
      | false =>
        rw [if_neg (by decide)]
        exact body (fun c => by cases c)
      | true =>
        rw [if_pos rfl, rcmpF _ _ hp ha, Option.bind_some]
        by_cases c2 : cmpL l[i].f0 a > 0
        · rw [if_pos c2]
          exact body (fun _ => c2)
        · rw [if_neg c2]
          exact next _ _ (h.same (fit_same (fun _ _ => c2) (fun _ => rfl)))
    · rw [if_neg c1]
      exact next _ _ (h.same (fit_same (fun h => absurd h c1) (fun h => absurd h c1)))
theorem leastF (l : List S32) (a : List Int) (b : Bool) (hl : l.length ≤ 1048576) (h1 : ∀ p ∈ l, p.f0.length ≤ 1048576) (ha : a.length ≤ 1048576) : ∃ o f, hushref2_least.F l a b = some (o, f) ∧ Least (Fit l a b) o f := by
  rw [hushref2_least.F_eq]
  exact least_loop l a b hl h1 ha l.length 0 [] false (by omega) ⟨fun c => (by cases c), fun _ x hx => (by
    obtain ⟨⟨p, hp, _⟩, _⟩ := hx
    cases hp)⟩
def OutsOf (B : List S32) (x : List Int) : Prop := ∃ q ∈ B, q.f0 = x
theorem least_nil {o : List Int} {f : Bool} (h : Least (OutsOf []) o f) : f = false := by
  cases f with
  | false => rfl
  | true =>
    obtain ⟨q, hq, _⟩ := (h.1 rfl).1
    cases hq
theorem least_cons {q : S32} {B : List S32} {o : List Int} {f : Bool} (hs : Strict (q :: B)) (h : Least (OutsOf (q :: B)) o f) : f = true ∧ o = q.f0 := by
  cases f with
  | false => exact absurd ⟨q, by simp, rfl⟩ (h.2 rfl q.f0)
  | true =>
    refine ⟨rfl, ?_⟩
    obtain ⟨⟨r, hr, e⟩, h2⟩ := h.1 rfl
    have h3 := h2 q.f0 ⟨q, by simp, rfl⟩
    rcases List.mem_cons.1 hr with c | c
    · rw [← e, c]
    · have h4 := (List.pairwise_cons.1 hs).1 r c
      have := cmpL_swap q.f0 r.f0
      rw [e] at h4 this
      omega
theorem fit_first {l D : List S32} (h : Canon l D) (h0 : ∀ p ∈ l, 0 ≤ p.f1) (a x : List Int) : OutsOf D x ↔ Fit l a false x := by
  unfold Fit
  rw [outs_iff h h0]
  exact ⟨fun k => ⟨k, fun c => by cases c⟩, fun k => k.1⟩
theorem fit_next {l A B : List S32} {q : S32} (h : Canon l (A ++ q :: B)) (h0 : ∀ p ∈ l, 0 ≤ p.f1) (x : List Int) : OutsOf B x ↔ Fit l q.f0 true x := by
  unfold Fit
  rw [outs_iff h h0]
  have hs := List.pairwise_append.1 h.st
  constructor
  · rintro ⟨r, hr, rfl⟩
    refine ⟨⟨r, by simp [hr], rfl⟩, fun _ => ?_⟩
    have h1 := (List.pairwise_cons.1 hs.2.1).1 r hr
    have := cmpL_swap q.f0 r.f0
    omega
  · rintro ⟨⟨r, hr, rfl⟩, k⟩
    have k := k rfl
    rcases List.mem_append.1 hr with c | c
    · have := hs.2.2 r c q (by simp)
      omega
    · rcases List.mem_cons.1 c with c | c
      · rw [c, cmpL_self] at k; omega
      · exact ⟨r, c, rfl⟩
theorem l2_loop (g : Nat) (hg : 0 < g) : ∀ (B A : List S32), A.length + B.length ≤ 1048576 → (∀ p ∈ B, 0 ≤ p.f1 ∧ p.f1 ≤ 4611686018427387904) →
    hushref2_Tidy.L2 (A ++ B) (g : Int) ((A.length + B.length : Nat) : Int) (A.length : Int) = some (A ++ B.map (fun p => ⟨p.f0, p.f1 / (g : Int)⟩), 0)
  | [], A, hl, _ => by
    rw [hushref2_Tidy.L2_eq, if_neg (by simp)]
    rfl
  | q :: B, A, hl, h0 => by
    rw [List.length_cons] at hl
    have hxi : A.length < (A ++ q :: B).length := by rw [List.length_append, List.length_cons]; omega
    have hq := h0 q (by simp)
    rw [hushref2_Tidy.L2_eq, if_pos (by rw [List.length_cons]; omega), if_pos (by omega), if_pos (by omega), if_neg (by omega), rd32At hxi, w1 (by omega)]
    have e1 : (A ++ q :: B)[A.length] = q := by simp
    rw [e1, quot hq.1 (by omega), Int.toNat_natCast]
    have e2 : (A ++ q :: B).set A.length ⟨q.f0, q.f1 / (g : Int)⟩ = (A ++ [⟨q.f0, q.f1 / (g : Int)⟩]) ++ B := by simp
    rw [e2]
    have ih := l2_loop g hg B (A ++ [⟨q.f0, q.f1 / (g : Int)⟩]) (by rw [List.length_append, List.length_singleton]; omega) (fun p hp => h0 p (by simp [hp]))
    rw [List.length_append, List.length_singleton] at ih
    rw [show A.length + (q :: B).length = A.length + 1 + B.length by rw [List.length_cons]; omega, ih, List.map_cons, List.append_assoc]
    rfl
theorem g_loop (D : List S32) (hl : D.length ≤ 1048576) (h0 : ∀ p ∈ D, 0 < p.f1 ∧ p.f1 ≤ 4611686018427387904) : ∀ (n i g : Nat), i + n = D.length → 0 < g → g ≤ 4611686018427387904 →
    ∃ g', g' = (D.drop i).foldl (fun g p => Nat.gcd p.f1.toNat g) g ∧ 0 < g' ∧ hushref2_Tidy.L1 D (g : Int) D (D.length : Int) (i : Int) = hushref2_Tidy.L1 D (g' : Int) D (D.length : Int) (D.length : Int) := by
  intro n
  induction n with
  | zero =>
    intro i g hi hg _
    obtain rfl : i = D.length := by omega
    exact ⟨g, by rw [List.drop_length]; rfl, hg, rfl⟩
  | succ n ih =>
    intro i g hi hg hb
    have hxi : i < D.length := by omega
    have hm := h0 _ (mem_at hxi)
    obtain ⟨x, hx⟩ := Int.eq_ofNat_of_zero_le (Int.le_of_lt hm.1)
    have hgp : 0 < Nat.gcd x g := Nat.gcd_pos_of_pos_right _ hg
    have hgl : Nat.gcd x g ≤ g := Nat.gcd_le_right _ hg
    obtain ⟨g', e, p, r⟩ := ih (i + 1) (Nat.gcd x g) (by omega) hgp (by omega)
    refine ⟨g', ?_, p, ?_⟩
    · rw [e, List.drop_eq_getElem_cons hxi, List.foldl_cons, hx, Int.toNat_natCast]
    · rw [hushref2_Tidy.L1_eq, if_pos (by omega), if_pos (by omega), if_pos (by omega), rd32At hxi, divF (by omega) (by omega) (by omega) (by omega), Option.bind_some, hx, w1 (by omega)]
      exact r
theorem one_le {l : List S32} (h0 : ∀ p ∈ l, 0 ≤ p.f1) {p : S32} (h : p ∈ l) : p.f1 ≤ totOf l := by
  have h1 := wOf_ge h0 h
  have h2 := (wOf_le h0 p.f0).2
  omega
noncomputable def tidyEnd (D : List S32) : Option (List S32 × Int) := if (D.length : Int) = 0 then (some (([] : List (S32)), 6)) else (if 0 < (D.length : Int) then (hushref2_Tidy.L1 D ((rd_T32 D 0).f1) D (D.length : Int) 0) else (none))
theorem tidyEnd_is (D : List S32) (hl : D.length ≤ 1048576) (h0 : ∀ p ∈ D, 0 < p.f1) (ht : totOf D ≤ 4611686018427387904) : tidyEnd D = some (tDone D) := by
  have h0' : ∀ p ∈ D, 0 ≤ p.f1 := fun p hp => Int.le_of_lt (h0 p hp)
  have hb : ∀ p ∈ D, 0 < p.f1 ∧ p.f1 ≤ 4611686018427387904 := fun p hp => ⟨h0 p hp, Int.le_trans (one_le h0' hp) ht⟩
  have hT := rtotF D hl h0' ht
  have ht0 := tot_ge h0'
  unfold tidyEnd tDone
  cases D with
  | nil => rw [if_pos (by simp), if_pos rfl]
  | cons q D' =>
    have hq := hb q (by simp)
    obtain ⟨x, hx⟩ := Int.eq_ofNat_of_zero_le (Int.le_of_lt hq.1)
    rw [if_neg (by rw [List.length_cons]; omega), if_pos (by rw [List.length_cons]; omega), if_neg (by simp)]
    have e1 : (rd_T32 (q :: D') 0).f1 = (x : Int) := hx
    rw [e1]
    obtain ⟨g', e, hg, r⟩ := g_loop (q :: D') hl hb (q :: D').length 0 x (by omega) (by omega) (by omega)
    rw [show ((0 : Nat) : Int) = 0 from rfl] at r
    rw [r]
    have eg : g' = gOf (q :: D') := by
      rw [e]
      unfold gOf
      rw [List.drop_zero, List.foldl_cons, List.foldl_cons, hx, Int.toNat_natCast, Nat.gcd_self, Nat.gcd_zero_right]
    rw [← eg, hushref2_Tidy.L1_eq, if_neg (by omega), hT, Option.bind_some, if_neg (by omega), quot ht0 (by omega)]
    have hj : ∀ b : Bool, b = decide (totOf (q :: D') / (g' : Int) > 1073741824 ∨ (q :: D').length > 4096) → hushref2_Tidy.J2 (q :: D') (g' : Int) b = some (if totOf (q :: D') / (g' : Int) > 1073741824 ∨ (q :: D').length > 4096 then ([], 4) else ((q :: D').map (fun p => ⟨p.f0, p.f1 / (g' : Int)⟩), 0)) := by
      intro b hb'
      rw [hushref2_Tidy.J2_eq]
      subst hb'
      by_cases c : totOf (q :: D') / (g' : Int) > 1073741824 ∨ (q :: D').length > 4096
      · rw [if_pos (decide_eq_true c), if_pos c]
      · rw [if_neg (by simpa using c), if_neg c]
        have := l2_loop g' hg (q :: D') [] (by simpa using hl) (fun p hp => ⟨h0' p hp, (hb p hp).2⟩)
        simpa using this
    by_cases c1 : totOf (q :: D') / (g' : Int) > 1073741824
    · rw [if_pos c1]
      exact hj true (by simp [c1])
    · rw [if_neg c1]
      refine hj _ ?_
      rw [decide_eq_decide]
      constructor
      · intro h; exact .inr (by omega)
      · rintro (h | h)
        · exact absurd h c1
        · omega
theorem tidy_loop (l D : List S32) (hl : l.length ≤ 1048576) (h1 : ∀ p ∈ l, p.f0.length ≤ 1048576) (h0 : ∀ p ∈ l, 0 ≤ p.f1) (ht : totOf l ≤ 4611686018427387904) (hd : D.length ≤ 1048576) (h : Canon l D) : ∀ (B A : List S32) (o : List Int) (f : Bool), D = A ++ B → Least (OutsOf B) o f →
    hushref2_Tidy.L0 l A o f = tidyEnd D
  | [], A, o, f, e, hf => by
    rw [least_nil hf, hushref2_Tidy.L0_eq, if_neg (by decide), e, List.append_nil]
    rfl
  | q :: B, A, o, f, e, hf => by
    have hs : Strict (q :: B) := by have := h.st; rw [e] at this; exact (List.pairwise_append.1 this).2.1
    obtain ⟨rfl, rfl⟩ := least_cons hs hf
    have hq : q.f0.length ≤ 1048576 := by
      obtain ⟨p, hp, e', _⟩ := (outs_iff h h0 q.f0).2 ⟨q, by rw [e]; simp, rfl⟩
      rw [← e']; exact h1 p hp
    have hw : wOf l q.f0 = q.f1 := by
      have := h.w q.f0
      rw [e, wOf_app, wOf_cons, if_pos rfl, strict_head hs, wOf_none A q.f0 (fun r hr c => by
        have h3 := h.st
        rw [e] at h3
        have h4 := (List.pairwise_append.1 h3).2.2 r hr q (by simp)
        rw [c, cmpL_self] at h4
        omega)] at this
      omega
    obtain ⟨o', f', e1, e2⟩ := leastF l q.f0 true hl h1 hq
    rw [hushref2_Tidy.L0_eq, if_pos rfl, weightF l _ hq hl h1 h0 ht, Option.bind_some, if_pos (by rw [e, List.length_append] at hd; omega), e1, Option.bind_some, hw]
    exact tidy_loop l D hl h1 h0 ht hd h B (A ++ [q]) o' f' (by rw [e, List.append_assoc]; rfl) (e2.same (fun x => fit_next (A := A) (by rw [← e]; exact h) h0 x))
theorem tStep_len (d : List S32) (p : S32) : (tStep d p).length ≤ d.length + 1 := by
  unfold tStep
  split
  · omega
  · split
    · split
      · rw [List.length_append, List.length_dropLast, List.length_singleton]; omega
      · rw [List.length_append, List.length_singleton]; omega
    · rw [List.length_append, List.length_singleton]; omega
theorem tFold_len : ∀ (l d : List S32), (l.foldl tStep d).length ≤ d.length + l.length
  | [], d => by simp
  | p :: l, d => by
    have := tFold_len l (tStep d p)
    have := tStep_len d p
    rw [List.foldl_cons, List.length_cons]; omega
theorem tMerge_len (l : List S32) : (tMerge (sortP l)).length ≤ l.length := by
  have := tFold_len (sortP l) []
  rw [(sortP_perm l).length_eq, List.length_nil] at this
  unfold tMerge
  omega
theorem totOf_app : ∀ (a b : List S32), totOf (a ++ b) = totOf a + totOf b
  | [], b => by rw [totOf_nil]; exact (Int.zero_add _).symm
  | p :: a, b => by rw [List.cons_append, totOf_cons, totOf_cons, totOf_app a b]; omega
theorem totOf_perm {a b : List S32} (h : a.Perm b) : totOf a = totOf b := isum_perm (h.map _)
theorem tStep_tot (d : List S32) (p : S32) : totOf (tStep d p) = totOf d + p.f1 := by
  unfold tStep
  split
  · omega
  · split
    · rename_i q hq
      obtain ⟨d0, e⟩ : ∃ d0, d = d0 ++ [q] := List.getLast?_eq_some_iff.1 hq
      subst e
      split
      · rw [List.dropLast_concat, totOf_app, totOf_app, totOf_cons, totOf_cons, totOf_nil]
        show _ + (q.f1 + p.f1 + 0) = _
        omega
      · rw [totOf_app _ [p], totOf_cons p, totOf_nil]; omega
    · rw [totOf_app, totOf_cons, totOf_nil]; omega
theorem tFold_tot : ∀ (l d : List S32), totOf (l.foldl tStep d) = totOf d + totOf l
  | [], d => by rw [totOf_nil]; exact (Int.add_zero _).symm
  | p :: l, d => by rw [List.foldl_cons, tFold_tot, tStep_tot, totOf_cons]; omega
theorem tMerge_tot (l : List S32) : totOf (tMerge (sortP l)) = totOf l := by
  unfold tMerge
  rw [tFold_tot, totOf_perm (sortP_perm l), totOf_nil]; omega
theorem rtidyF (l : List S32) (hl : l.length ≤ 1048576) (h1 : ∀ p ∈ l, p.f0.length ≤ 1048576) (h0 : ∀ p ∈ l, 0 ≤ p.f1) (ht : totOf l ≤ 4611686018427387904) : hushref2_Tidy.F l = some (tDone (tMerge (sortP l))) := by
  have hc := tidy_canon h0
  obtain ⟨o, f, e1, e2⟩ := leastF l [] false hl h1 (by simp)
  have hlen := tMerge_len l
  rw [hushref2_Tidy.F_eq, e1, Option.bind_some, tidy_loop l _ hl h1 h0 ht (by omega) hc _ [] o f rfl (e2.same (fit_first hc h0 []))]
  exact tidyEnd_is _ (by omega) hc.pos (by rw [tMerge_tot]; exact ht)
end Go.Proofs.Ytkemhfhmlcljjaa.DistPure
end
section
namespace Go.Proofs.Ytkemhfhmlcljjaa.PB
open Go.RowKit Go.Proofs.YtkemhfhmlcljjaaW.PrintWords Go.Proofs.YtkemhfhmlcljjaaW.PrintLast Go.Proofs.YtkemhfhmlcljjaaW.PrintMore
open Go.Proofs.YtkemhfhmlcljjaaW.EvKit
set_option linter.unusedVariables false
noncomputable def dist_Make.L0 (x4 : List (S32)) (x7 : List (S32)) (x8 : Int) (x9 : Int) : Option ((List (S32)) × Int) := lim (fun k => dist_Make.l0 k x4 x7 x8 x9)
theorem dist_Make.L0_is (x4 : List (S32)) (x7 : List (S32)) (x8 : Int) (x9 : Int) : LimIs (fun k => dist_Make.l0 k x4 x7 x8 x9) (dist_Make.L0 x4 x7 x8 x9) := ⟨fun k => (dist_Make.mono_l k) x4 x7 x8 x9, rfl⟩
noncomputable def dist_Make.F (l0 : List (S32)) : Option ((List (S32)) × Int) := lim (fun k => dist_Make.f k l0)
theorem dist_Make.F_is (l0 : List (S32)) : LimIs (fun k => dist_Make.f k l0) (dist_Make.F l0) := ⟨fun k => dist_Make.mono l0 k, rfl⟩
set_option maxRecDepth 100000 in
theorem dist_Make.L0_eq (x4 : List (S32)) (x7 : List (S32)) (x8 : Int) (x9 : Int) : dist_Make.L0 x4 x7 x8 x9 = if x9 < x8 then (if 0 ≤ x9 then (if x9 < (x7.length : Int) then ((dist_small.F ((rd_T32 x7 x9).f0)).bind fun t120 => (if t120 = true then (if ((rd_T32 x7 x9).f1) < 0 then (some (([] : List (S32)), 3)) else (if ((rd_T32 x7 x9).f1) > 1073741824 then (some (([] : List (S32)), 3)) else ((slices_Clone_int_int.f ((rd_T32 x7 x9).f0)).bind fun t121 => (if x4.length < 4398046511104 then (dist_Make.L0 (x4 ++ [(⟨t121, (rd_T32 x7 x9).f1⟩ : S32)]) x7 x8 (wrap64 (x9 + 1))) else (none))))) else (some (([] : List (S32)), 3)))) else (none)) else (none)) else ((dist_tidy.F x4).bind fun bt114 => (some (bt114.1, bt114.2))) := by
  refine LimIs.step' (dist_Make.L0_is x4 x7 x8 x9).1 (b := fun k => if x9 < x8 then (if 0 ≤ x9 then (if x9 < (x7.length : Int) then ((dist_small.f k ((rd_T32 x7 x9).f0)).bind fun t120 => (if t120 = true then (if ((rd_T32 x7 x9).f1) < 0 then (some (([] : List (S32)), 3)) else (if ((rd_T32 x7 x9).f1) > 1073741824 then (some (([] : List (S32)), 3)) else ((slices_Clone_int_int.f ((rd_T32 x7 x9).f0)).bind fun t121 => (if x4.length < 4398046511104 then (dist_Make.l0 k (x4 ++ [(⟨t121, (rd_T32 x7 x9).f1⟩ : S32)]) x7 x8 (wrap64 (x9 + 1))) else (none))))) else (some (([] : List (S32)), 3)))) else (none)) else (none)) else ((dist_tidy.f k x4).bind fun bt114 => (some (bt114.1, bt114.2)))) (fun k => by first | rfl | rw [dist_Make.l0]) ?_
  repeat' first
    | (with_reducible exact dist_small.F_is _)
    | (with_reducible exact dist_Make.L0_is _ _ _ _)
    | (with_reducible exact dist_tidy.F_is _)
    | (with_reducible exact LimIs.const _)
    | (with_reducible refine LimIs.ite ?_ ?_)
    | (with_reducible refine LimIs.bind ?_ (fun _ => ?_))
    | exact dist_small.F_is _
    | exact dist_Make.L0_is _ _ _ _
    | exact dist_tidy.F_is _
    | exact LimIs.const _
    | refine LimIs.ite ?_ ?_
    | refine LimIs.bind ?_ (fun _ => ?_)
set_option maxRecDepth 100000 in
theorem dist_Make.F_eq (l0 : List (S32)) : dist_Make.F l0 = dist_Make.L0 ([] : List (S32)) l0 (l0.length : Int) 0 := by
  refine LimIs.out (?_ : LimIs (fun k => dist_Make.l0 k ([] : List (S32)) l0 (l0.length : Int) 0) _)
  repeat' first
    | (with_reducible exact dist_Make.L0_is _ _ _ _)
    | (with_reducible exact LimIs.const _)
    | (with_reducible refine LimIs.ite ?_ ?_)
    | (with_reducible refine LimIs.bind ?_ (fun _ => ?_))
    | exact dist_Make.L0_is _ _ _ _
    | exact LimIs.const _
    | refine LimIs.ite ?_ ?_
    | refine LimIs.bind ?_ (fun _ => ?_)
end Go.Proofs.Ytkemhfhmlcljjaa.PB
end
section
namespace Go.Proofs.Ytkemhfhmlcljjaa.PB
open Go.RowKit Go.Proofs.YtkemhfhmlcljjaaW.PrintWords Go.Proofs.YtkemhfhmlcljjaaW.PrintLast Go.Proofs.YtkemhfhmlcljjaaW.PrintMore
open Go.Proofs.YtkemhfhmlcljjaaW.EvKit
set_option linter.unusedVariables false
noncomputable def hushref2_Make.L0 (x0 : List (S32)) (x6 : List (S32)) (x7 : Int) (x8 : Int) : Option ((List (S32)) × Int) := lim (fun k => hushref2_Make.l0 k x0 x6 x7 x8)
theorem hushref2_Make.L0_is (x0 : List (S32)) (x6 : List (S32)) (x7 : Int) (x8 : Int) : LimIs (fun k => hushref2_Make.l0 k x0 x6 x7 x8) (hushref2_Make.L0 x0 x6 x7 x8) := ⟨fun k => (hushref2_Make.mono_l k) x0 x6 x7 x8, rfl⟩
noncomputable def hushref2_Same.L0 (x0 : List (S32)) (x1 : List (S32)) (x12 : Int) (x13 : Int) : Option (Bool) := lim (fun k => hushref2_Same.l0 k x0 x1 x12 x13)
theorem hushref2_Same.L0_is (x0 : List (S32)) (x1 : List (S32)) (x12 : Int) (x13 : Int) : LimIs (fun k => hushref2_Same.l0 k x0 x1 x12 x13) (hushref2_Same.L0 x0 x1 x12 x13) := ⟨fun k => (hushref2_Same.mono_l k) x0 x1 x12 x13, rfl⟩
noncomputable def hushref2_Make.F (l0 : List (S32)) : Option ((List (S32)) × Int) := lim (fun k => hushref2_Make.f k l0)
theorem hushref2_Make.F_is (l0 : List (S32)) : LimIs (fun k => hushref2_Make.f k l0) (hushref2_Make.F l0) := ⟨fun k => hushref2_Make.mono l0 k, rfl⟩
noncomputable def hushref2_Same.F (l0 : List (S32)) (l1 : List (S32)) : Option (Bool) := lim (fun k => hushref2_Same.f k l0 l1)
theorem hushref2_Same.F_is (l0 : List (S32)) (l1 : List (S32)) : LimIs (fun k => hushref2_Same.f k l0 l1) (hushref2_Same.F l0 l1) := ⟨fun k => hushref2_Same.mono l0 l1 k, rfl⟩
set_option maxRecDepth 100000 in
theorem hushref2_Make.L0_eq (x0 : List (S32)) (x6 : List (S32)) (x7 : Int) (x8 : Int) : hushref2_Make.L0 x0 x6 x7 x8 = if x8 < x7 then (if 0 ≤ x8 then (if x8 < (x6.length : Int) then ((hushref2_Small.F ((rd_T32 x6 x8).f0)).bind fun t163 => (if t163 = true then (if ((rd_T32 x6 x8).f1) < 0 then (some (([] : List (S32)), 3)) else (if ((rd_T32 x6 x8).f1) > 1073741824 then (some (([] : List (S32)), 3)) else (hushref2_Make.L0 x0 x6 x7 (wrap64 (x8 + 1))))) else (some (([] : List (S32)), 3)))) else (none)) else (none)) else ((hushref2_Tidy.F x0).bind fun bt164 => (some (bt164.1, bt164.2))) := by
  refine LimIs.step' (hushref2_Make.L0_is x0 x6 x7 x8).1 (b := fun k => if x8 < x7 then (if 0 ≤ x8 then (if x8 < (x6.length : Int) then ((hushref2_Small.f k ((rd_T32 x6 x8).f0)).bind fun t163 => (if t163 = true then (if ((rd_T32 x6 x8).f1) < 0 then (some (([] : List (S32)), 3)) else (if ((rd_T32 x6 x8).f1) > 1073741824 then (some (([] : List (S32)), 3)) else (hushref2_Make.l0 k x0 x6 x7 (wrap64 (x8 + 1))))) else (some (([] : List (S32)), 3)))) else (none)) else (none)) else ((hushref2_Tidy.f k x0).bind fun bt164 => (some (bt164.1, bt164.2)))) (fun k => by first | rfl | rw [hushref2_Make.l0]) ?_
  repeat' first
    | (with_reducible exact hushref2_Small.F_is _)
    | (with_reducible exact hushref2_Make.L0_is _ _ _ _)
    | (with_reducible exact hushref2_Tidy.F_is _)
    | (with_reducible exact LimIs.const _)
    | (with_reducible refine LimIs.ite ?_ ?_)
    | (with_reducible refine LimIs.bind ?_ (fun _ => ?_))
    | exact hushref2_Small.F_is _
    | exact hushref2_Make.L0_is _ _ _ _
    | exact hushref2_Tidy.F_is _
    | exact LimIs.const _
    | refine LimIs.ite ?_ ?_
    | refine LimIs.bind ?_ (fun _ => ?_)
set_option maxRecDepth 100000 in
theorem hushref2_Same.L0_eq (x0 : List (S32)) (x1 : List (S32)) (x12 : Int) (x13 : Int) : hushref2_Same.L0 x0 x1 x12 x13 = if x13 < x12 then (if 0 ≤ x13 then (if x13 < (x0.length : Int) then (if x13 < (x1.length : Int) then (if ((rd_T32 x0 x13).f1) = ((rd_T32 x1 x13).f1) then ((hushref2_Compare.F ((rd_T32 x0 x13).f0) ((rd_T32 x1 x13).f0)).bind fun t172 => (if t172 = 0 then (hushref2_Same.L0 x0 x1 x12 (wrap64 (x13 + 1))) else (some false))) else (some false)) else (none)) else (none)) else (none)) else (some true) := by
  refine LimIs.step' (hushref2_Same.L0_is x0 x1 x12 x13).1 (b := fun k => if x13 < x12 then (if 0 ≤ x13 then (if x13 < (x0.length : Int) then (if x13 < (x1.length : Int) then (if ((rd_T32 x0 x13).f1) = ((rd_T32 x1 x13).f1) then ((hushref2_Compare.f k ((rd_T32 x0 x13).f0) ((rd_T32 x1 x13).f0)).bind fun t172 => (if t172 = 0 then (hushref2_Same.l0 k x0 x1 x12 (wrap64 (x13 + 1))) else (some false))) else (some false)) else (none)) else (none)) else (none)) else (some true)) (fun k => by first | rfl | rw [hushref2_Same.l0]) ?_
  repeat' first
    | (with_reducible exact hushref2_Compare.F_is _ _)
    | (with_reducible exact hushref2_Same.L0_is _ _ _ _)
    | (with_reducible exact LimIs.const _)
    | (with_reducible refine LimIs.ite ?_ ?_)
    | (with_reducible refine LimIs.bind ?_ (fun _ => ?_))
    | exact hushref2_Compare.F_is _ _
    | exact hushref2_Same.L0_is _ _ _ _
    | exact LimIs.const _
    | refine LimIs.ite ?_ ?_
    | refine LimIs.bind ?_ (fun _ => ?_)
set_option maxRecDepth 100000 in
theorem hushref2_Make.F_eq (l0 : List (S32)) : hushref2_Make.F l0 = hushref2_Make.L0 l0 l0 (l0.length : Int) 0 := by
  refine LimIs.out (?_ : LimIs (fun k => hushref2_Make.l0 k l0 l0 (l0.length : Int) 0) _)
  repeat' first
    | (with_reducible exact hushref2_Make.L0_is _ _ _ _)
    | (with_reducible exact LimIs.const _)
    | (with_reducible refine LimIs.ite ?_ ?_)
    | (with_reducible refine LimIs.bind ?_ (fun _ => ?_))
    | exact hushref2_Make.L0_is _ _ _ _
    | exact LimIs.const _
    | refine LimIs.ite ?_ ?_
    | refine LimIs.bind ?_ (fun _ => ?_)
set_option maxRecDepth 100000 in
theorem hushref2_Same.F_eq (l0 : List (S32)) (l1 : List (S32)) : hushref2_Same.F l0 l1 = if (l0.length : Int) = (l1.length : Int) then (hushref2_Same.L0 l0 l1 (l0.length : Int) 0) else (some false) := by
  refine LimIs.out (?_ : LimIs (fun k => if (l0.length : Int) = (l1.length : Int) then (hushref2_Same.l0 k l0 l1 (l0.length : Int) 0) else (some false)) _)
  repeat' first
    | (with_reducible exact hushref2_Same.L0_is _ _ _ _)
    | (with_reducible exact LimIs.const _)
    | (with_reducible refine LimIs.ite ?_ ?_)
    | (with_reducible refine LimIs.bind ?_ (fun _ => ?_))
    | exact hushref2_Same.L0_is _ _ _ _
    | exact LimIs.const _
    | refine LimIs.ite ?_ ?_
    | refine LimIs.bind ?_ (fun _ => ?_)
end Go.Proofs.Ytkemhfhmlcljjaa.PB
end
section
namespace Go.Proofs.Ytkemhfhmlcljjaa.PB
open Go.RowKit Go.Proofs.YtkemhfhmlcljjaaW.PrintWords Go.Proofs.YtkemhfhmlcljjaaW.PrintLast Go.Proofs.YtkemhfhmlcljjaaW.PrintMore
open Go.Proofs.YtkemhfhmlcljjaaW.EvKit
set_option linter.unusedVariables false
noncomputable def api_Part.L0 (x1 : List (S32)) (x15 : List (S32)) (x16 : Int) (x17 : Int) : Option (Bool) := lim (fun k => api_Part.l0 k x1 x15 x16 x17)
theorem api_Part.L0_is (x1 : List (S32)) (x15 : List (S32)) (x16 : Int) (x17 : Int) : LimIs (fun k => api_Part.l0 k x1 x15 x16 x17) (api_Part.L0 x1 x15 x16 x17) := ⟨fun k => (api_Part.mono_l k) x1 x15 x16 x17, rfl⟩
noncomputable def dist_same_1.F (l0_0 : List Int) (a0_1 : Int) (l1_0 : List Int) (a1_1 : Int) : Option (Bool) := lim (fun k => dist_same_1.f k l0_0 a0_1 l1_0 a1_1)
theorem dist_same_1.F_is (l0_0 : List Int) (a0_1 : Int) (l1_0 : List Int) (a1_1 : Int) : LimIs (fun k => dist_same_1.f k l0_0 a0_1 l1_0 a1_1) (dist_same_1.F l0_0 a0_1 l1_0 a1_1) := ⟨fun k => dist_same_1.mono l0_0 a0_1 l1_0 a1_1 k, rfl⟩
noncomputable def api_Part.F (l0 : List (S32)) (l1 : List (S32)) (a2 : Int) : Option (Bool) := lim (fun k => api_Part.f k l0 l1 a2)
theorem api_Part.F_is (l0 : List (S32)) (l1 : List (S32)) (a2 : Int) : LimIs (fun k => api_Part.f k l0 l1 a2) (api_Part.F l0 l1 a2) := ⟨fun k => api_Part.mono l0 l1 a2 k, rfl⟩
noncomputable def dist_same.F (l0 : List (S32)) (l1 : List (S32)) : Option (Bool) := lim (fun k => dist_same.f k l0 l1)
theorem dist_same.F_is (l0 : List (S32)) (l1 : List (S32)) : LimIs (fun k => dist_same.f k l0 l1) (dist_same.F l0 l1) := ⟨fun k => dist_same.mono l0 l1 k, rfl⟩
noncomputable def dist_Wrong.F (l0 : List (S32)) : Option (Int) := lim (fun k => dist_Wrong.f k l0)
theorem dist_Wrong.F_is (l0 : List (S32)) : LimIs (fun k => dist_Wrong.f k l0) (dist_Wrong.F l0) := ⟨fun k => dist_Wrong.mono l0 k, rfl⟩
noncomputable def hushref2_Wrong.F (l0 : List (S32)) : Option (Int) := lim (fun k => hushref2_Wrong.f k l0)
theorem hushref2_Wrong.F_is (l0 : List (S32)) : LimIs (fun k => hushref2_Wrong.f k l0) (hushref2_Wrong.F l0) := ⟨fun k => hushref2_Wrong.mono l0 k, rfl⟩
noncomputable def dist_Sure.F (l0 : List Int) : Option ((List (S32)) × Int) := lim (fun k => dist_Sure.f k l0)
theorem dist_Sure.F_is (l0 : List Int) : LimIs (fun k => dist_Sure.f k l0) (dist_Sure.F l0) := ⟨fun k => dist_Sure.mono l0 k, rfl⟩
set_option maxRecDepth 100000 in
theorem api_Part.L0_eq (x1 : List (S32)) (x15 : List (S32)) (x16 : Int) (x17 : Int) : api_Part.L0 x1 x15 x16 x17 = if x17 < x16 then (if 0 ≤ x17 then (if x17 < (x15.length : Int) then (if x17 < (x1.length : Int) then ((dist_same_1.F ((rd_T32 x15 x17).f0) ((rd_T32 x15 x17).f1) ((rd_T32 x1 x17).f0) ((rd_T32 x1 x17).f1)).bind fun t180 => (if t180 = true then (api_Part.L0 x1 x15 x16 (wrap64 (x17 + 1))) else (some false))) else (none)) else (none)) else (none)) else (some true) := by
  refine LimIs.step' (api_Part.L0_is x1 x15 x16 x17).1 (b := fun k => if x17 < x16 then (if 0 ≤ x17 then (if x17 < (x15.length : Int) then (if x17 < (x1.length : Int) then ((dist_same_1.f k ((rd_T32 x15 x17).f0) ((rd_T32 x15 x17).f1) ((rd_T32 x1 x17).f0) ((rd_T32 x1 x17).f1)).bind fun t180 => (if t180 = true then (api_Part.l0 k x1 x15 x16 (wrap64 (x17 + 1))) else (some false))) else (none)) else (none)) else (none)) else (some true)) (fun k => by first | rfl | rw [api_Part.l0]) ?_
  repeat' first
    | (with_reducible exact dist_same_1.F_is _ _ _ _)
    | (with_reducible exact api_Part.L0_is _ _ _ _)
    | (with_reducible exact LimIs.const _)
    | (with_reducible refine LimIs.ite ?_ ?_)
    | (with_reducible refine LimIs.bind ?_ (fun _ => ?_))
    | exact dist_same_1.F_is _ _ _ _
    | exact api_Part.L0_is _ _ _ _
    | exact LimIs.const _
    | refine LimIs.ite ?_ ?_
    | refine LimIs.bind ?_ (fun _ => ?_)
set_option maxRecDepth 100000 in
theorem dist_same_1.F_eq (l0_0 : List Int) (a0_1 : Int) (l1_0 : List Int) (a1_1 : Int) : dist_same_1.F l0_0 a0_1 l1_0 a1_1 = if a0_1 = a1_1 then ((slices_Equal_int_int.F l0_0 l1_0).bind fun t175 => (some t175)) else (some false) := by
  refine LimIs.out (?_ : LimIs (fun k => if a0_1 = a1_1 then ((slices_Equal_int_int.f k l0_0 l1_0).bind fun t175 => (some t175)) else (some false)) _)
  repeat' first
    | (with_reducible exact slices_Equal_int_int.F_is _ _)
    | (with_reducible exact LimIs.const _)
    | (with_reducible refine LimIs.ite ?_ ?_)
    | (with_reducible refine LimIs.bind ?_ (fun _ => ?_))
    | exact slices_Equal_int_int.F_is _ _
    | exact LimIs.const _
    | refine LimIs.ite ?_ ?_
    | refine LimIs.bind ?_ (fun _ => ?_)
set_option maxRecDepth 100000 in
theorem api_Part.F_eq (l0 : List (S32)) (l1 : List (S32)) (a2 : Int) : api_Part.F l0 l1 a2 = if (l0.length : Int) = (l1.length : Int) then (api_Part.L0 l1 l0 (l0.length : Int) 0) else (some false) := by
  refine LimIs.out (?_ : LimIs (fun k => if (l0.length : Int) = (l1.length : Int) then (api_Part.l0 k l1 l0 (l0.length : Int) 0) else (some false)) _)
  repeat' first
    | (with_reducible exact api_Part.L0_is _ _ _ _)
    | (with_reducible exact LimIs.const _)
    | (with_reducible refine LimIs.ite ?_ ?_)
    | (with_reducible refine LimIs.bind ?_ (fun _ => ?_))
    | exact api_Part.L0_is _ _ _ _
    | exact LimIs.const _
    | refine LimIs.ite ?_ ?_
    | refine LimIs.bind ?_ (fun _ => ?_)
set_option maxRecDepth 100000 in
theorem dist_same.F_eq (l0 : List (S32)) (l1 : List (S32)) : dist_same.F l0 l1 = (api_Part.F l0 l1 990000082).bind fun t181 => (some t181) := by
  refine LimIs.out (?_ : LimIs (fun k => (api_Part.f k l0 l1 990000082).bind fun t181 => (some t181)) _)
  repeat' first
    | (with_reducible exact api_Part.F_is _ _ _)
    | (with_reducible exact LimIs.const _)
    | (with_reducible refine LimIs.ite ?_ ?_)
    | (with_reducible refine LimIs.bind ?_ (fun _ => ?_))
    | exact api_Part.F_is _ _ _
    | exact LimIs.const _
    | refine LimIs.ite ?_ ?_
    | refine LimIs.bind ?_ (fun _ => ?_)
set_option maxRecDepth 100000 in
theorem dist_Wrong.F_eq (l0 : List (S32)) : dist_Wrong.F l0 = (dist_Make.F l0).bind fun bt182 => (if bt182.2 = 0 then ((dist_same.F l0 bt182.1).bind fun t186 => (if t186 = true then (some bt182.2) else (some 2))) else (some bt182.2)) := by
  refine LimIs.out (?_ : LimIs (fun k => (dist_Make.f k l0).bind fun bt182 => (if bt182.2 = 0 then ((dist_same.f k l0 bt182.1).bind fun t186 => (if t186 = true then (some bt182.2) else (some 2))) else (some bt182.2))) _)
  repeat' first
    | (with_reducible exact dist_Make.F_is _)
    | (with_reducible exact dist_same.F_is _ _)
    | (with_reducible exact LimIs.const _)
    | (with_reducible refine LimIs.ite ?_ ?_)
    | (with_reducible refine LimIs.bind ?_ (fun _ => ?_))
    | exact dist_Make.F_is _
    | exact dist_same.F_is _ _
    | exact LimIs.const _
    | refine LimIs.ite ?_ ?_
    | refine LimIs.bind ?_ (fun _ => ?_)
set_option maxRecDepth 100000 in
theorem hushref2_Wrong.F_eq (l0 : List (S32)) : hushref2_Wrong.F l0 = (hushref2_Make.F l0).bind fun bt187 => (if bt187.2 = 0 then ((hushref2_Same.F l0 bt187.1).bind fun t191 => (if t191 = true then (some 0) else (some 2))) else (some bt187.2)) := by
  refine LimIs.out (?_ : LimIs (fun k => (hushref2_Make.f k l0).bind fun bt187 => (if bt187.2 = 0 then ((hushref2_Same.f k l0 bt187.1).bind fun t191 => (if t191 = true then (some 0) else (some 2))) else (some bt187.2))) _)
  repeat' first
    | (with_reducible exact hushref2_Make.F_is _)
    | (with_reducible exact hushref2_Same.F_is _ _)
    | (with_reducible exact LimIs.const _)
    | (with_reducible refine LimIs.ite ?_ ?_)
    | (with_reducible refine LimIs.bind ?_ (fun _ => ?_))
    | exact hushref2_Make.F_is _
    | exact hushref2_Same.F_is _ _
    | exact LimIs.const _
    | refine LimIs.ite ?_ ?_
    | refine LimIs.bind ?_ (fun _ => ?_)
set_option maxRecDepth 100000 in
theorem dist_Sure.F_eq (l0 : List Int) : dist_Sure.F l0 = (dist_Make.F (([(⟨l0, 1⟩ : S32)] : List (S32)))).bind fun bt195 => (some (bt195.1, bt195.2)) := by
  refine LimIs.out (?_ : LimIs (fun k => (dist_Make.f k (([(⟨l0, 1⟩ : S32)] : List (S32)))).bind fun bt195 => (some (bt195.1, bt195.2))) _)
  repeat' first
    | (with_reducible exact dist_Make.F_is _)
    | (with_reducible exact LimIs.const _)
    | (with_reducible refine LimIs.ite ?_ ?_)
    | (with_reducible refine LimIs.bind ?_ (fun _ => ?_))
    | exact dist_Make.F_is _
    | exact LimIs.const _
    | refine LimIs.ite ?_ ?_
    | refine LimIs.bind ?_ (fun _ => ?_)
end Go.Proofs.Ytkemhfhmlcljjaa.PB
end
section
namespace Go.Proofs.Ytkemhfhmlcljjaa.DistPure
set_option linter.unusedVariables false
set_option linter.unusedSimpArgs false
open Go.RowKit Go.Proofs.Ytkemhfhmlcljjaa.PB Go.Proofs.YtkemhfhmlcljjaaW.PrintWords Go.Proofs.YtkemhfhmlcljjaaW.PrintLast Go.Proofs.YtkemhfhmlcljjaaW.PrintMore Go.Proofs.YtkemhfhmlcljjaaW.EvKit
instance : DecidableEq S32 := fun p q => decidable_of_iff (p.f1 = q.f1 ∧ p.f0 = q.f0) (by cases p; cases q; simp only [S32.mk.injEq]; exact And.comm)
structure Bd (l : List S32) : Prop where
  len : l.length ≤ 1048576
  out : ∀ p ∈ l, p.f0.length ≤ 1048576
def okP (p : S32) : Bool := smallB p.f0 && (decide (0 ≤ p.f1) && decide (p.f1 ≤ 1073741824))
theorem okP_iff {p : S32} : okP p = true ↔ smallB p.f0 = true ∧ 0 ≤ p.f1 ∧ p.f1 ≤ 1073741824 := by simp [okP]
def makeP (l : List S32) : List S32 × Int := if l.all okP = true then tDone (tMerge (sortP l)) else ([], 3)
theorem all_ok {l : List S32} (h : l.all okP = true) : ∀ p ∈ l, 0 ≤ p.f1 ∧ p.f1 ≤ 1073741824 := fun p hp => (okP_iff.1 (List.all_eq_true.1 h p hp)).2
theorem all_tot {l : List S32} (h : l.all okP = true) (hl : l.length ≤ 1048576) : totOf l ≤ 4611686018427387904 := by
  have := tot_bd (all_ok h)
  omega
theorem tidyF (l : List S32) (hl : l.length ≤ 1048576) (h : l.all okP = true) : dist_tidy.F l = some (tDone (tMerge (sortP l))) := by
  rw [dist_tidy.F_eq, if_pos]
  unfold tGuard
  have := all_tot h hl
  simp only [Bool.and_eq_true, decide_eq_true_eq, List.all_eq_true]
  exact ⟨⟨by omega, fun p hp => (all_ok h p hp).1⟩, this⟩
theorem cloneF (o : List Int) (h : o.length ≤ 1048576) : slices_Clone_int_int.f o = some o := by
  unfold slices_Clone_int_int.f
  rw [if_pos (by omega)]
theorem make_loop (l : List S32) (h : Bd l) : ∀ (n i : Nat), i + n = l.length → (l.take i).all okP = true →
    dist_Make.L0 (l.take i) l (l.length : Int) (i : Int) = some (if (l.drop i).all okP = true then tDone (tMerge (sortP l)) else ([], 3)) := by
  have hl := h.len
  intro n
  induction n with
  | zero =>
    intro i hi ha
    rw [List.take_of_length_le (show l.length ≤ i by omega)] at ha ⊢
    rw [dist_Make.L0_eq, if_neg (by omega), tidyF l h.len ha, Option.bind_some, List.drop_of_length_le (show l.length ≤ i by omega)]
    rfl
  | succ n ih =>
    intro i hi ha
    have hxi : i < l.length := by omega
    have ho := h.out _ (mem_at hxi)
    rw [dist_Make.L0_eq, if_pos (by omega), if_pos (by omega), if_pos (by omega), rd32At hxi, smallF _ ho, Option.bind_some, List.drop_eq_getElem_cons hxi, List.all_cons]
    have e : okP l[i] = (smallB l[i].f0 && (decide (0 ≤ l[i].f1) && decide (l[i].f1 ≤ 1073741824))) := rfl
    cases c : smallB l[i].f0 with
    | false =>
      rw [if_neg (by decide), e, c]
      rfl
    | true =>
      rw [if_pos rfl]
      by_cases c1 : l[i].f1 < 0
      · rw [if_pos c1, if_neg]
        rw [e, decide_eq_false (show ¬ 0 ≤ l[i].f1 by omega)]
        simp
      · rw [if_neg c1]
        by_cases c2 : l[i].f1 > 1073741824
        · rw [if_pos c2, if_neg]
          rw [e, decide_eq_false (show ¬ l[i].f1 ≤ 1073741824 by omega)]
          simp
        · have hok : okP l[i] = true := okP_iff.2 ⟨c, by omega, by omega⟩
          rw [if_neg c2, cloneF _ ho, Option.bind_some, if_pos (by rw [List.length_take]; omega), hok, Bool.true_and, w1 (by omega)]
          have e2 : l.take i ++ [(⟨l[i].f0, l[i].f1⟩ : S32)] = l.take (i + 1) := (take_one hxi).symm
          rw [e2]
          exact ih (i + 1) (by omega) (by rw [take_one hxi, List.all_append, ha]; simp [hok])
theorem makeF1 (l : List S32) (h : Bd l) : dist_Make.F l = some (makeP l) := by
  rw [dist_Make.F_eq]
  exact make_loop l h l.length 0 (by omega) (by simp)
theorem rmake_loop (l : List S32) (h : Bd l) : ∀ (n i : Nat), i + n = l.length → (l.take i).all okP = true →
    hushref2_Make.L0 l l (l.length : Int) (i : Int) = some (if (l.drop i).all okP = true then tDone (tMerge (sortP l)) else ([], 3)) := by
  have hl := h.len
  intro n
  induction n with
  | zero =>
    intro i hi ha
    rw [List.take_of_length_le (show l.length ≤ i by omega)] at ha
    rw [hushref2_Make.L0_eq, if_neg (by omega), rtidyF l h.len h.out (fun p hp => (all_ok ha p hp).1) (all_tot ha h.len), Option.bind_some, List.drop_of_length_le (show l.length ≤ i by omega)]
    rfl
  | succ n ih =>
    intro i hi ha
    have hxi : i < l.length := by omega
    have ho := h.out _ (mem_at hxi)
    rw [hushref2_Make.L0_eq, if_pos (by omega), if_pos (by omega), if_pos (by omega), rd32At hxi, rsmallF _ ho, Option.bind_some, List.drop_eq_getElem_cons hxi, List.all_cons]
    have e : okP l[i] = (smallB l[i].f0 && (decide (0 ≤ l[i].f1) && decide (l[i].f1 ≤ 1073741824))) := rfl
    cases c : smallB l[i].f0 with
    | false =>
      rw [if_neg (by decide), e, c]
      rfl
    | true =>
      rw [if_pos rfl]
      by_cases c1 : l[i].f1 < 0
      · rw [if_pos c1, if_neg]
        rw [e, decide_eq_false (show ¬ 0 ≤ l[i].f1 by omega)]
        simp
      · rw [if_neg c1]
        by_cases c2 : l[i].f1 > 1073741824
        · rw [if_pos c2, if_neg]
          rw [e, decide_eq_false (show ¬ l[i].f1 ≤ 1073741824 by omega)]
          simp
        · have hok : okP l[i] = true := okP_iff.2 ⟨c, by omega, by omega⟩
          rw [if_neg c2, hok, Bool.true_and, w1 (by omega)]
          exact ih (i + 1) (by omega) (by rw [take_one hxi, List.all_append, ha]; simp [hok])
theorem rmakeF1 (l : List S32) (h : Bd l) : hushref2_Make.F l = some (makeP l) := by
  rw [hushref2_Make.F_eq]
  exact rmake_loop l h l.length 0 (by omega) (by simp)
theorem tDone_bd {D : List S32} (h : Bd D) : Bd (tDone D).1 := by
  unfold tDone
  split
  · exact ⟨by simp, by simp⟩
  · split
    · exact ⟨by simp, by simp⟩
    · refine ⟨by simpa using h.len, fun p hp => ?_⟩
      obtain ⟨q, hq, rfl⟩ := List.mem_map.1 hp
      exact h.out q hq
theorem makeP_bd {l : List S32} (h : Bd l) : Bd (makeP l).1 := by
  unfold makeP
  split
  · rename_i c
    have h0 : ∀ p ∈ l, 0 ≤ p.f1 := fun p hp => (all_ok c p hp).1
    refine tDone_bd ⟨?_, fun q hq => ?_⟩
    · have := tMerge_len l
      have := h.len
      omega
    · obtain ⟨p, hp, e, _⟩ := (outs_iff (tidy_canon h0) h0 q.f0).2 ⟨q, hq, rfl⟩
      rw [← e]
      exact h.out p hp
  · exact ⟨by simp, by simp⟩
theorem s32_eq {p q : S32} : p = q ↔ p.f1 = q.f1 ∧ p.f0 = q.f0 := by
  cases p; cases q
  simp only [S32.mk.injEq]
  exact And.comm
theorem rsame_loop (a b : List S32) (ha : Bd a) (hb : Bd b) (hl : a.length = b.length) : ∀ (n i : Nat), i + n = a.length →
    hushref2_Same.L0 a b (a.length : Int) (i : Int) = some (decide (a.drop i = b.drop i)) := by
  have hla := ha.len
  intro n
  induction n with
  | zero =>
    intro i hi
    rw [hushref2_Same.L0_eq, if_neg (by omega), List.drop_of_length_le (show a.length ≤ i by omega), List.drop_of_length_le (show b.length ≤ i by omega)]
    rfl
  | succ n ih =>
    intro i hi
    have h1 : i < a.length := by omega
    have h2 : i < b.length := by omega
    rw [hushref2_Same.L0_eq, if_pos (by omega), if_pos (by omega), if_pos (by omega), if_pos (by omega), rd32At h1, rd32At h2, List.drop_eq_getElem_cons h1, List.drop_eq_getElem_cons h2]
    by_cases c1 : a[i].f1 = b[i].f1
    · rw [if_pos c1, rcmpF _ _ (ha.out _ (mem_at h1)) (hb.out _ (mem_at h2)), Option.bind_some]
      by_cases c2 : a[i].f0 = b[i].f0
      · rw [if_pos (cmpL0.2 c2), w1 (by omega), ih (i + 1) (by omega), show a[i] = b[i] from s32_eq.2 ⟨c1, c2⟩]
        congr 1
        rw [decide_eq_decide]
        exact ⟨fun h => by rw [h], fun h => by injection h⟩
      · rw [if_neg (fun h => c2 (cmpL0.1 h))]
        congr 1
        symm
        rw [decide_eq_false_iff_not]
        intro h
        injection h with h _
        exact c2 (by rw [h])
    · rw [if_neg c1]
      congr 1
      symm
      rw [decide_eq_false_iff_not]
      intro h
      injection h with h _
      exact c1 (by rw [h])
theorem rsameF (a b : List S32) (ha : Bd a) (hb : Bd b) : hushref2_Same.F a b = some (decide (a = b)) := by
  rw [hushref2_Same.F_eq]
  by_cases h : a.length = b.length
  · rw [if_pos (by omega)]
    exact rsame_loop a b ha hb h a.length 0 (by omega)
  · rw [if_neg (by omega)]
    congr 1
    symm
    rw [decide_eq_false_iff_not]
    intro e
    exact h (by rw [e])
theorem same_loop (a b : List S32) (ha : Bd a) (hb : Bd b) (hl : a.length = b.length) : ∀ (n i : Nat), i + n = a.length →
    api_Part.L0 b a (a.length : Int) (i : Int) = some (decide (a.drop i = b.drop i)) := by
  have hla := ha.len
  intro n
  induction n with
  | zero =>
    intro i hi
    rw [api_Part.L0_eq, if_neg (by omega), List.drop_of_length_le (show a.length ≤ i by omega), List.drop_of_length_le (show b.length ≤ i by omega)]
    rfl
  | succ n ih =>
    intro i hi
    have h1 : i < a.length := by omega
    have h2 : i < b.length := by omega
    rw [api_Part.L0_eq, if_pos (by omega), if_pos (by omega), if_pos (by omega), if_pos (by omega), rd32At h1, rd32At h2, List.drop_eq_getElem_cons h1, List.drop_eq_getElem_cons h2, dist_same_1.F_eq]
    by_cases c1 : a[i].f1 = b[i].f1
    · rw [if_pos c1, eqF _ _ (ha.out _ (mem_at h1)), Option.bind_some, Option.bind_some]
      by_cases c2 : a[i].f0 = b[i].f0
      · rw [if_pos (decide_eq_true c2), w1 (by omega), ih (i + 1) (by omega), show a[i] = b[i] from s32_eq.2 ⟨c1, c2⟩]
        congr 1
        rw [decide_eq_decide]
        exact ⟨fun h => by rw [h], fun h => by injection h⟩
      · rw [if_neg (by simpa using c2)]
        congr 1
        symm
        rw [decide_eq_false_iff_not]
        intro h
        injection h with h _
        exact c2 (by rw [h])
    · rw [if_neg c1, Option.bind_some, if_neg (by decide)]
      congr 1
      symm
      rw [decide_eq_false_iff_not]
      intro h
      injection h with h _
      exact c1 (by rw [h])
theorem sameF (a b : List S32) (ha : Bd a) (hb : Bd b) : dist_same.F a b = some (decide (a = b)) := by
  rw [dist_same.F_eq, api_Part.F_eq]
  by_cases h : a.length = b.length
  · rw [if_pos (by omega)]
    rw [show (0 : Int) = ((0 : Nat) : Int) from rfl, same_loop a b ha hb h a.length 0 (by omega)]
    rfl
  · rw [if_neg (by omega), Option.bind_some]
    congr 1
    symm
    rw [decide_eq_false_iff_not]
    intro e
    exact h (by rw [e])
def wrongP (d : List S32) : Int := if (makeP d).2 = 0 then (if d = (makeP d).1 then 0 else 2) else (makeP d).2
theorem wrongF (d : List S32) (h : Bd d) : dist_Wrong.F d = some (wrongP d) := by
  rw [dist_Wrong.F_eq, makeF1 d h, Option.bind_some]
  unfold wrongP
  by_cases c : (makeP d).2 = 0
  · rw [if_pos c, if_pos c, sameF _ _ h (makeP_bd h), Option.bind_some]
    by_cases c2 : d = (makeP d).1
    · rw [if_pos (decide_eq_true c2), if_pos c2, c]
    · rw [if_neg (by simpa using c2), if_neg c2]
  · rw [if_neg c, if_neg c]
theorem rwrongF (d : List S32) (h : Bd d) : hushref2_Wrong.F d = some (wrongP d) := by
  rw [hushref2_Wrong.F_eq, rmakeF1 d h, Option.bind_some]
  unfold wrongP
  by_cases c : (makeP d).2 = 0
  · rw [if_pos c, if_pos c, rsameF _ _ h (makeP_bd h), Option.bind_some]
    by_cases c2 : d = (makeP d).1
    · rw [if_pos (decide_eq_true c2), if_pos c2]
    · rw [if_neg (by simpa using c2), if_neg c2]
  · rw [if_neg c, if_neg c]
structure Right (d : List S32) : Prop where
  ok : d.all okP = true
  st : Strict d
  pos : 0 < totOf d
  few : totOf d ≤ 1073741824
  much : d.length ≤ 4096
theorem div_sum (g : Int) (hg : 0 < g) : ∀ (D : List S32), totOf (D.map (fun p => (⟨p.f0, p.f1 / g⟩ : S32))) ≤ totOf D / g
  | [] => by rw [List.map_nil, totOf_nil, Int.zero_ediv]; exact Int.le_refl 0
  | p :: D => by
    have ih := div_sum g hg D
    rw [List.map_cons, totOf_cons, totOf_cons]
    have h1 := Int.ediv_mul_le p.f1 (show g ≠ 0 by omega)
    have h2 := Int.ediv_mul_le (totOf D) (show g ≠ 0 by omega)
    have h3 : p.f1 / g + totOf D / g ≤ (p.f1 + totOf D) / g := by
      rw [Int.le_ediv_iff_mul_le hg, Int.add_mul]
      omega
    show p.f1 / g + _ ≤ _
    omega
theorem right_of {d : List S32} (h : wrongP d = 0) : Right d := by
  unfold wrongP at h
  by_cases c : (makeP d).2 = 0
  · rw [if_pos c] at h
    by_cases c2 : d = (makeP d).1
    · unfold makeP at c c2
      by_cases ho : d.all okP = true
      · rw [if_pos ho] at c c2
        have h0 : ∀ p ∈ d, 0 ≤ p.f1 := fun p hp => (all_ok ho p hp).1
        have hc := tidy_canon h0
        have htot := tMerge_tot d
        unfold tDone at c c2
        by_cases e1 : tMerge (sortP d) = []
        · rw [if_pos e1] at c; cases c
        · rw [if_neg e1] at c c2
          have hg := gOf_pos hc.pos e1
          by_cases e2 : totOf (tMerge (sortP d)) / (gOf (tMerge (sortP d)) : Int) > 1073741824 ∨ (tMerge (sortP d)).length > 4096
          · rw [if_pos e2] at c; cases c
          · rw [if_neg e2] at c2
            dsimp only at c2
            have hs := div_sum (gOf (tMerge (sortP d)) : Int) (by omega) (tMerge (sortP d))
            have htot2 : 0 < totOf (tMerge (sortP d)) := by
              cases hD : tMerge (sortP d) with
              | nil => exact absurd hD e1
              | cons q D =>
                have hp := hc.pos q (by rw [hD]; simp)
                have h2 := one_le (l := tMerge (sortP d)) (fun p hp => Int.le_of_lt (hc.pos p hp)) (p := q) (by rw [hD]; simp)
                rw [hD] at h2
                omega
            refine ⟨ho, ?_, by omega, ?_, ?_⟩
            · rw [c2]
              unfold Strict
              rw [List.pairwise_map]
              exact hc.st
            · rw [← c2] at hs
              omega
            · have := congrArg List.length c2
              rw [List.length_map] at this
              omega
      · rw [if_neg ho] at c; cases c
    · rw [if_neg c2] at h; cases h
  · rw [if_neg c] at h; exact absurd h c
end Go.Proofs.Ytkemhfhmlcljjaa.DistPure
end
section
namespace Go.Proofs.Ytkemhfhmlcljjaa.PB
open Go.RowKit Go.Proofs.YtkemhfhmlcljjaaW.PrintWords Go.Proofs.YtkemhfhmlcljjaaW.PrintLast Go.Proofs.YtkemhfhmlcljjaaW.PrintMore
open Go.Proofs.YtkemhfhmlcljjaaW.EvKit
set_option linter.unusedVariables false
noncomputable def dist_Chance.L0 (x0 : List (S32)) (x1 : List Int) (x7 : Int) (x16 : List (S32)) (x17 : Int) (x18 : Int) : Option (Int × Int × Int) := lim (fun k => dist_Chance.l0 k x0 x1 x7 x16 x17 x18)
theorem dist_Chance.L0_is (x0 : List (S32)) (x1 : List Int) (x7 : Int) (x16 : List (S32)) (x17 : Int) (x18 : Int) : LimIs (fun k => dist_Chance.l0 k x0 x1 x7 x16 x17 x18) (dist_Chance.L0 x0 x1 x7 x16 x17 x18) := ⟨fun k => (dist_Chance.mono_l k) x0 x1 x7 x16 x17 x18, rfl⟩
noncomputable def hushref1_Make.J0 (x0 : Int) (x1 : Int) (x12 : Bool) : Option (Int × Int × Int) := lim (fun k => hushref1_Make.j0 k x0 x1 x12)
theorem hushref1_Make.J0_is (x0 : Int) (x1 : Int) (x12 : Bool) : LimIs (fun k => hushref1_Make.j0 k x0 x1 x12) (hushref1_Make.J0 x0 x1 x12) := ⟨fun k => (hushref1_Make.mono_l k) x0 x1 x12, rfl⟩
noncomputable def dist_Chance.F (l0 : List (S32)) (l1 : List Int) : Option (Int × Int × Int) := lim (fun k => dist_Chance.f k l0 l1)
theorem dist_Chance.F_is (l0 : List (S32)) (l1 : List Int) : LimIs (fun k => dist_Chance.f k l0 l1) (dist_Chance.F l0 l1) := ⟨fun k => dist_Chance.mono l0 l1 k, rfl⟩
noncomputable def hushref1_Make.F (a0 : Int) (a1 : Int) : Option (Int × Int × Int) := lim (fun k => hushref1_Make.f k a0 a1)
theorem hushref1_Make.F_is (a0 : Int) (a1 : Int) : LimIs (fun k => hushref1_Make.f k a0 a1) (hushref1_Make.F a0 a1) := ⟨fun k => hushref1_Make.mono a0 a1 k, rfl⟩
set_option maxRecDepth 100000 in
theorem dist_Chance.L0_eq (x0 : List (S32)) (x1 : List Int) (x7 : Int) (x16 : List (S32)) (x17 : Int) (x18 : Int) : dist_Chance.L0 x0 x1 x7 x16 x17 x18 = if x18 < x17 then (if 0 ≤ x18 then (if x18 < (x16.length : Int) then ((slices_Equal_int_int.F ((rd_T32 x16 x18).f0) x1).bind fun t206 => (if t206 = true then (dist_Chance.L0 x0 x1 ((rd_T32 x16 x18).f1) x16 x17 (wrap64 (x18 + 1))) else (dist_Chance.L0 x0 x1 x7 x16 x17 (wrap64 (x18 + 1))))) else (none)) else (none)) else ((dist_total.F x0).bind fun t207 => ((ratio_Make.F x7 t207).bind fun bt208 => (some (bt208.1, bt208.2.1, bt208.2.2)))) := by
  refine LimIs.step' (dist_Chance.L0_is x0 x1 x7 x16 x17 x18).1 (b := fun k => if x18 < x17 then (if 0 ≤ x18 then (if x18 < (x16.length : Int) then ((slices_Equal_int_int.f k ((rd_T32 x16 x18).f0) x1).bind fun t206 => (if t206 = true then (dist_Chance.l0 k x0 x1 ((rd_T32 x16 x18).f1) x16 x17 (wrap64 (x18 + 1))) else (dist_Chance.l0 k x0 x1 x7 x16 x17 (wrap64 (x18 + 1))))) else (none)) else (none)) else ((dist_total.f k x0).bind fun t207 => ((ratio_Make.f k x7 t207).bind fun bt208 => (some (bt208.1, bt208.2.1, bt208.2.2))))) (fun k => by first | rfl | rw [dist_Chance.l0]) ?_
  repeat' first
    | (with_reducible exact slices_Equal_int_int.F_is _ _)
    | (with_reducible exact dist_Chance.L0_is _ _ _ _ _ _)
    | (with_reducible exact dist_total.F_is _)
    | (with_reducible exact ratio_Make.F_is _ _)
    | (with_reducible exact LimIs.const _)
    | (with_reducible refine LimIs.ite ?_ ?_)
    | (with_reducible refine LimIs.bind ?_ (fun _ => ?_))
    | exact slices_Equal_int_int.F_is _ _
    | exact dist_Chance.L0_is _ _ _ _ _ _
    | exact dist_total.F_is _
    | exact ratio_Make.F_is _ _
    | exact LimIs.const _
    | refine LimIs.ite ?_ ?_
    | refine LimIs.bind ?_ (fun _ => ?_)
set_option maxRecDepth 100000 in
theorem hushref1_Make.J0_eq (x0 : Int) (x1 : Int) (x12 : Bool) : hushref1_Make.J0 x0 x1 x12 = if x12 = true then (some (0, 0, 3)) else ((hushref1_Divisor.F x0 x1).bind fun t212 => (if t212 = 0 then (none) else (if (wrap64 (Int.tdiv x0 t212)) > 1073741824 then (some (0, 0, 4)) else (if (wrap64 (Int.tdiv x1 t212)) > 1073741824 then (some (0, 0, 4)) else (some (wrap64 (Int.tdiv x0 t212), wrap64 (Int.tdiv x1 t212), 0)))))) := by
  refine LimIs.step' (hushref1_Make.J0_is x0 x1 x12).1 (b := fun k => if x12 = true then (some (0, 0, 3)) else ((hushref1_Divisor.f k x0 x1).bind fun t212 => (if t212 = 0 then (none) else (if (wrap64 (Int.tdiv x0 t212)) > 1073741824 then (some (0, 0, 4)) else (if (wrap64 (Int.tdiv x1 t212)) > 1073741824 then (some (0, 0, 4)) else (some (wrap64 (Int.tdiv x0 t212), wrap64 (Int.tdiv x1 t212), 0))))))) (fun k => by first | rfl | rw [hushref1_Make.j0]) ?_
  repeat' first
    | (with_reducible exact hushref1_Divisor.F_is _ _)
    | (with_reducible exact LimIs.const _)
    | (with_reducible refine LimIs.ite ?_ ?_)
    | (with_reducible refine LimIs.bind ?_ (fun _ => ?_))
    | exact hushref1_Divisor.F_is _ _
    | exact LimIs.const _
    | refine LimIs.ite ?_ ?_
    | refine LimIs.bind ?_ (fun _ => ?_)
set_option maxRecDepth 100000 in
theorem dist_Chance.F_eq (l0 : List (S32)) (l1 : List Int) : dist_Chance.F l0 l1 = (dist_Wrong.F l0).bind fun t203 => (if t203 = 0 then (dist_Chance.L0 l0 l1 0 l0 (l0.length : Int) 0) else (some (0, 0, t203))) := by
  refine LimIs.out (?_ : LimIs (fun k => (dist_Wrong.f k l0).bind fun t203 => (if t203 = 0 then (dist_Chance.l0 k l0 l1 0 l0 (l0.length : Int) 0) else (some (0, 0, t203)))) _)
  repeat' first
    | (with_reducible exact dist_Wrong.F_is _)
    | (with_reducible exact dist_Chance.L0_is _ _ _ _ _ _)
    | (with_reducible exact LimIs.const _)
    | (with_reducible refine LimIs.ite ?_ ?_)
    | (with_reducible refine LimIs.bind ?_ (fun _ => ?_))
    | exact dist_Wrong.F_is _
    | exact dist_Chance.L0_is _ _ _ _ _ _
    | exact LimIs.const _
    | refine LimIs.ite ?_ ?_
    | refine LimIs.bind ?_ (fun _ => ?_)
set_option maxRecDepth 100000 in
theorem hushref1_Make.F_eq (a0 : Int) (a1 : Int) : hushref1_Make.F a0 a1 = if a0 < 0 then (hushref1_Make.J0 a0 a1 true) else (hushref1_Make.J0 a0 a1 (decide (a1 < 1))) := by
  refine LimIs.out (?_ : LimIs (fun k => if a0 < 0 then (hushref1_Make.j0 k a0 a1 true) else (hushref1_Make.j0 k a0 a1 (decide (a1 < 1)))) _)
  repeat' first
    | (with_reducible exact hushref1_Make.J0_is _ _ _)
    | (with_reducible exact LimIs.const _)
    | (with_reducible refine LimIs.ite ?_ ?_)
    | (with_reducible refine LimIs.bind ?_ (fun _ => ?_))
    | exact hushref1_Make.J0_is _ _ _
    | exact LimIs.const _
    | refine LimIs.ite ?_ ?_
    | refine LimIs.bind ?_ (fun _ => ?_)
end Go.Proofs.Ytkemhfhmlcljjaa.PB
end
section
namespace Go.Proofs.Ytkemhfhmlcljjaa.PB
open Go.RowKit Go.Proofs.YtkemhfhmlcljjaaW.PrintWords Go.Proofs.YtkemhfhmlcljjaaW.PrintLast Go.Proofs.YtkemhfhmlcljjaaW.PrintMore
open Go.Proofs.YtkemhfhmlcljjaaW.EvKit
set_option linter.unusedVariables false
noncomputable def dist_Mean.L0 (x0 : List (S32)) (x1 : Int) (x4 : Int) (x16 : List (S32)) (x17 : Int) (x18 : Int) : Option (Int × Int × Int) := lim (fun k => dist_Mean.l0 k x0 x1 x4 x16 x17 x18)
theorem dist_Mean.L0_is (x0 : List (S32)) (x1 : Int) (x4 : Int) (x16 : List (S32)) (x17 : Int) (x18 : Int) : LimIs (fun k => dist_Mean.l0 k x0 x1 x4 x16 x17 x18) (dist_Mean.L0 x0 x1 x4 x16 x17 x18) := ⟨fun k => (dist_Mean.mono_l k) x0 x1 x4 x16 x17 x18, rfl⟩
noncomputable def dist_Mean.F (l0 : List (S32)) (a1 : Int) : Option (Int × Int × Int) := lim (fun k => dist_Mean.f k l0 a1)
theorem dist_Mean.F_is (l0 : List (S32)) (a1 : Int) : LimIs (fun k => dist_Mean.f k l0 a1) (dist_Mean.F l0 a1) := ⟨fun k => dist_Mean.mono l0 a1 k, rfl⟩
set_option maxRecDepth 100000 in
theorem dist_Mean.L0_eq (x0 : List (S32)) (x1 : Int) (x4 : Int) (x16 : List (S32)) (x17 : Int) (x18 : Int) : dist_Mean.L0 x0 x1 x4 x16 x17 x18 = if x18 < x17 then (if 0 ≤ x18 then (if x18 < (x16.length : Int) then (if x1 < 0 then (some (0, 0, 6)) else (if x1 ≥ (((rd_T32 x16 x18).f0).length : Int) then (some (0, 0, 6)) else (if 0 ≤ x1 then (if x1 < (((rd_T32 x16 x18).f0).length : Int) then (dist_Mean.L0 x0 x1 (wrap64 (x4 + (wrap64 (((rd_T32 x16 x18).f1) * (rd ((rd_T32 x16 x18).f0) x1))))) x16 x17 (wrap64 (x18 + 1))) else (none)) else (none)))) else (none)) else (none)) else ((dist_total.F x0).bind fun t224 => ((dist_gcd.F t224 (mx x4 (wrap64 (-x4)))).bind fun t225 => (if t225 = 0 then (none) else ((dist_total.F x0).bind fun t226 => (some (wrap64 (Int.tdiv x4 t225), wrap64 (Int.tdiv t226 t225), 0)))))) := by
  refine LimIs.step' (dist_Mean.L0_is x0 x1 x4 x16 x17 x18).1 (b := fun k => if x18 < x17 then (if 0 ≤ x18 then (if x18 < (x16.length : Int) then (if x1 < 0 then (some (0, 0, 6)) else (if x1 ≥ (((rd_T32 x16 x18).f0).length : Int) then (some (0, 0, 6)) else (if 0 ≤ x1 then (if x1 < (((rd_T32 x16 x18).f0).length : Int) then (dist_Mean.l0 k x0 x1 (wrap64 (x4 + (wrap64 (((rd_T32 x16 x18).f1) * (rd ((rd_T32 x16 x18).f0) x1))))) x16 x17 (wrap64 (x18 + 1))) else (none)) else (none)))) else (none)) else (none)) else ((dist_total.f k x0).bind fun t224 => ((dist_gcd.f k t224 (mx x4 (wrap64 (-x4)))).bind fun t225 => (if t225 = 0 then (none) else ((dist_total.f k x0).bind fun t226 => (some (wrap64 (Int.tdiv x4 t225), wrap64 (Int.tdiv t226 t225), 0))))))) (fun k => by first | rfl | rw [dist_Mean.l0]) ?_
  repeat' first
    | (with_reducible exact dist_Mean.L0_is _ _ _ _ _ _)
    | (with_reducible exact dist_total.F_is _)
    | (with_reducible exact dist_gcd.F_is _ _)
    | (with_reducible exact LimIs.const _)
    | (with_reducible refine LimIs.ite ?_ ?_)
    | (with_reducible refine LimIs.bind ?_ (fun _ => ?_))
    | exact dist_Mean.L0_is _ _ _ _ _ _
    | exact dist_total.F_is _
    | exact dist_gcd.F_is _ _
    | exact LimIs.const _
    | refine LimIs.ite ?_ ?_
    | refine LimIs.bind ?_ (fun _ => ?_)
set_option maxRecDepth 100000 in
theorem dist_Mean.F_eq (l0 : List (S32)) (a1 : Int) : dist_Mean.F l0 a1 = (dist_Wrong.F l0).bind fun t220 => (if t220 = 0 then (dist_Mean.L0 l0 a1 0 l0 (l0.length : Int) 0) else (some (0, 0, t220))) := by
  refine LimIs.out (?_ : LimIs (fun k => (dist_Wrong.f k l0).bind fun t220 => (if t220 = 0 then (dist_Mean.l0 k l0 a1 0 l0 (l0.length : Int) 0) else (some (0, 0, t220)))) _)
  repeat' first
    | (with_reducible exact dist_Wrong.F_is _)
    | (with_reducible exact dist_Mean.L0_is _ _ _ _ _ _)
    | (with_reducible exact LimIs.const _)
    | (with_reducible refine LimIs.ite ?_ ?_)
    | (with_reducible refine LimIs.bind ?_ (fun _ => ?_))
    | exact dist_Wrong.F_is _
    | exact dist_Mean.L0_is _ _ _ _ _ _
    | exact LimIs.const _
    | refine LimIs.ite ?_ ?_
    | refine LimIs.bind ?_ (fun _ => ?_)
end Go.Proofs.Ytkemhfhmlcljjaa.PB
end
section
namespace Go.Proofs.Ytkemhfhmlcljjaa.PB
open Go.RowKit Go.Proofs.YtkemhfhmlcljjaaW.PrintWords Go.Proofs.YtkemhfhmlcljjaaW.PrintLast Go.Proofs.YtkemhfhmlcljjaaW.PrintMore
open Go.Proofs.YtkemhfhmlcljjaaW.EvKit
set_option linter.unusedVariables false
end Go.Proofs.Ytkemhfhmlcljjaa.PB
end
section
namespace Go.Proofs.Ytkemhfhmlcljjaa.PB
open Go.RowKit Go.Proofs.YtkemhfhmlcljjaaW.PrintWords Go.Proofs.YtkemhfhmlcljjaaW.PrintLast Go.Proofs.YtkemhfhmlcljjaaW.PrintMore
open Go.Proofs.YtkemhfhmlcljjaaW.EvKit
set_option linter.unusedVariables false
noncomputable def hushref2_Chance.F (l0 : List (S32)) (l1 : List Int) : Option (Int × Int × Int) := lim (fun k => hushref2_Chance.f k l0 l1)
theorem hushref2_Chance.F_is (l0 : List (S32)) (l1 : List Int) : LimIs (fun k => hushref2_Chance.f k l0 l1) (hushref2_Chance.F l0 l1) := ⟨fun k => hushref2_Chance.mono l0 l1 k, rfl⟩
set_option maxRecDepth 100000 in
theorem hushref2_Chance.F_eq (l0 : List (S32)) (l1 : List Int) : hushref2_Chance.F l0 l1 = (hushref2_Wrong.F l0).bind fun t214 => (if t214 = 0 then ((hushref2_Weight.F l0 l1).bind fun t215 => ((hushref2_Total.F l0).bind fun t216 => ((hushref1_Make.F t215 t216).bind fun bt217 => (some (bt217.1, bt217.2.1, bt217.2.2))))) else (some (0, 0, t214))) := by
  refine LimIs.out (?_ : LimIs (fun k => (hushref2_Wrong.f k l0).bind fun t214 => (if t214 = 0 then ((hushref2_Weight.f k l0 l1).bind fun t215 => ((hushref2_Total.f k l0).bind fun t216 => ((hushref1_Make.f k t215 t216).bind fun bt217 => (some (bt217.1, bt217.2.1, bt217.2.2))))) else (some (0, 0, t214)))) _)
  repeat' first
    | (with_reducible exact hushref2_Wrong.F_is _)
    | (with_reducible exact hushref2_Weight.F_is _ _)
    | (with_reducible exact hushref2_Total.F_is _)
    | (with_reducible exact hushref1_Make.F_is _ _)
    | (with_reducible exact LimIs.const _)
    | (with_reducible refine LimIs.ite ?_ ?_)
    | (with_reducible refine LimIs.bind ?_ (fun _ => ?_))
    | exact hushref2_Wrong.F_is _
    | exact hushref2_Weight.F_is _ _
    | exact hushref2_Total.F_is _
    | exact hushref1_Make.F_is _ _
    | exact LimIs.const _
    | refine LimIs.ite ?_ ?_
    | refine LimIs.bind ?_ (fun _ => ?_)
end Go.Proofs.Ytkemhfhmlcljjaa.PB
end
section
namespace Go.Proofs.Ytkemhfhmlcljjaa.PB
open Go.RowKit Go.Proofs.YtkemhfhmlcljjaaW.PrintWords Go.Proofs.YtkemhfhmlcljjaaW.PrintLast Go.Proofs.YtkemhfhmlcljjaaW.PrintMore
open Go.Proofs.YtkemhfhmlcljjaaW.EvKit
set_option linter.unusedVariables false
noncomputable def hushref2_Mean.L0 (x0 : List (S32)) (x1 : Int) (x8 : Int) (x18 : List (S32)) (x19 : Int) (x20 : Int) : Option (Int × Int × Int) := lim (fun k => hushref2_Mean.l0 k x0 x1 x8 x18 x19 x20)
theorem hushref2_Mean.L0_is (x0 : List (S32)) (x1 : Int) (x8 : Int) (x18 : List (S32)) (x19 : Int) (x20 : Int) : LimIs (fun k => hushref2_Mean.l0 k x0 x1 x8 x18 x19 x20) (hushref2_Mean.L0 x0 x1 x8 x18 x19 x20) := ⟨fun k => (hushref2_Mean.mono_l k) x0 x1 x8 x18 x19 x20, rfl⟩
noncomputable def hushref2_Mean.F (l0 : List (S32)) (a1 : Int) : Option (Int × Int × Int) := lim (fun k => hushref2_Mean.f k l0 a1)
theorem hushref2_Mean.F_is (l0 : List (S32)) (a1 : Int) : LimIs (fun k => hushref2_Mean.f k l0 a1) (hushref2_Mean.F l0 a1) := ⟨fun k => hushref2_Mean.mono l0 a1 k, rfl⟩
set_option maxRecDepth 100000 in
theorem hushref2_Mean.L0_eq (x0 : List (S32)) (x1 : Int) (x8 : Int) (x18 : List (S32)) (x19 : Int) (x20 : Int) : hushref2_Mean.L0 x0 x1 x8 x18 x19 x20 = if x20 < x19 then (if 0 ≤ x20 then (if x20 < (x18.length : Int) then (if x1 < 0 then (some (0, 0, 6)) else (if x1 ≥ (((rd_T32 x18 x20).f0).length : Int) then (some (0, 0, 6)) else (if 0 ≤ x1 then (if x1 < (((rd_T32 x18 x20).f0).length : Int) then (hushref2_Mean.L0 x0 x1 (wrap64 (x8 + (wrap64 (((rd_T32 x18 x20).f1) * (rd ((rd_T32 x18 x20).f0) x1))))) x18 x19 (wrap64 (x20 + 1))) else (none)) else (none)))) else (none)) else (none)) else (if x8 < 0 then ((hushref2_Total.F x0).bind fun t231 => ((hushref1_Divisor.F (wrap64 (-x8)) t231).bind fun t232 => (if t232 = 0 then (none) else ((hushref2_Total.F x0).bind fun t233 => (some (wrap64 (Int.tdiv x8 t232), wrap64 (Int.tdiv t233 t232), 0)))))) else ((hushref2_Total.F x0).bind fun t234 => ((hushref1_Divisor.F x8 t234).bind fun t235 => (if t235 = 0 then (none) else ((hushref2_Total.F x0).bind fun t236 => (some (wrap64 (Int.tdiv x8 t235), wrap64 (Int.tdiv t236 t235), 0))))))) := by
  refine LimIs.step' (hushref2_Mean.L0_is x0 x1 x8 x18 x19 x20).1 (b := fun k => if x20 < x19 then (if 0 ≤ x20 then (if x20 < (x18.length : Int) then (if x1 < 0 then (some (0, 0, 6)) else (if x1 ≥ (((rd_T32 x18 x20).f0).length : Int) then (some (0, 0, 6)) else (if 0 ≤ x1 then (if x1 < (((rd_T32 x18 x20).f0).length : Int) then (hushref2_Mean.l0 k x0 x1 (wrap64 (x8 + (wrap64 (((rd_T32 x18 x20).f1) * (rd ((rd_T32 x18 x20).f0) x1))))) x18 x19 (wrap64 (x20 + 1))) else (none)) else (none)))) else (none)) else (none)) else (if x8 < 0 then ((hushref2_Total.f k x0).bind fun t231 => ((hushref1_Divisor.f k (wrap64 (-x8)) t231).bind fun t232 => (if t232 = 0 then (none) else ((hushref2_Total.f k x0).bind fun t233 => (some (wrap64 (Int.tdiv x8 t232), wrap64 (Int.tdiv t233 t232), 0)))))) else ((hushref2_Total.f k x0).bind fun t234 => ((hushref1_Divisor.f k x8 t234).bind fun t235 => (if t235 = 0 then (none) else ((hushref2_Total.f k x0).bind fun t236 => (some (wrap64 (Int.tdiv x8 t235), wrap64 (Int.tdiv t236 t235), 0)))))))) (fun k => by first | rfl | rw [hushref2_Mean.l0]) ?_
  repeat' first
    | (with_reducible exact hushref2_Mean.L0_is _ _ _ _ _ _)
    | (with_reducible exact hushref2_Total.F_is _)
    | (with_reducible exact hushref1_Divisor.F_is _ _)
    | (with_reducible exact LimIs.const _)
    | (with_reducible refine LimIs.ite ?_ ?_)
    | (with_reducible refine LimIs.bind ?_ (fun _ => ?_))
    | exact hushref2_Mean.L0_is _ _ _ _ _ _
    | exact hushref2_Total.F_is _
    | exact hushref1_Divisor.F_is _ _
    | exact LimIs.const _
    | refine LimIs.ite ?_ ?_
    | refine LimIs.bind ?_ (fun _ => ?_)
set_option maxRecDepth 100000 in
theorem hushref2_Mean.F_eq (l0 : List (S32)) (a1 : Int) : hushref2_Mean.F l0 a1 = (hushref2_Wrong.F l0).bind fun t227 => (if t227 = 0 then (hushref2_Mean.L0 l0 a1 0 l0 (l0.length : Int) 0) else (some (0, 0, t227))) := by
  refine LimIs.out (?_ : LimIs (fun k => (hushref2_Wrong.f k l0).bind fun t227 => (if t227 = 0 then (hushref2_Mean.l0 k l0 a1 0 l0 (l0.length : Int) 0) else (some (0, 0, t227)))) _)
  repeat' first
    | (with_reducible exact hushref2_Wrong.F_is _)
    | (with_reducible exact hushref2_Mean.L0_is _ _ _ _ _ _)
    | (with_reducible exact LimIs.const _)
    | (with_reducible refine LimIs.ite ?_ ?_)
    | (with_reducible refine LimIs.bind ?_ (fun _ => ?_))
    | exact hushref2_Wrong.F_is _
    | exact hushref2_Mean.L0_is _ _ _ _ _ _
    | exact LimIs.const _
    | refine LimIs.ite ?_ ?_
    | refine LimIs.bind ?_ (fun _ => ?_)
end Go.Proofs.Ytkemhfhmlcljjaa.PB
end
section
namespace Go.Proofs.Ytkemhfhmlcljjaa.PB
open Go.RowKit Go.Proofs.YtkemhfhmlcljjaaW.PrintWords Go.Proofs.YtkemhfhmlcljjaaW.PrintLast Go.Proofs.YtkemhfhmlcljjaaW.PrintMore
open Go.Proofs.YtkemhfhmlcljjaaW.EvKit
set_option linter.unusedVariables false
noncomputable def hushlaw2_DistMakes.J0 (x1 : List (S32)) (x2 : List Int) (x3 : Int) (x44 : Bool) : Option (Bool) := lim (fun k => hushlaw2_DistMakes.j0 k x1 x2 x3 x44)
theorem hushlaw2_DistMakes.J0_is (x1 : List (S32)) (x2 : List Int) (x3 : Int) (x44 : Bool) : LimIs (fun k => hushlaw2_DistMakes.j0 k x1 x2 x3 x44) (hushlaw2_DistMakes.J0 x1 x2 x3 x44) := ⟨fun k => (hushlaw2_DistMakes.mono_l k).1 x1 x2 x3 x44, rfl⟩
noncomputable def hushlaw2_DistMakes.J1 (x1 : List (S32)) (x2 : List Int) (x3 : Int) (x65 : Bool) : Option (Bool) := lim (fun k => hushlaw2_DistMakes.j1 k x1 x2 x3 x65)
theorem hushlaw2_DistMakes.J1_is (x1 : List (S32)) (x2 : List Int) (x3 : Int) (x65 : Bool) : LimIs (fun k => hushlaw2_DistMakes.j1 k x1 x2 x3 x65) (hushlaw2_DistMakes.J1 x1 x2 x3 x65) := ⟨fun k => (hushlaw2_DistMakes.mono_l k).2.1 x1 x2 x3 x65, rfl⟩
noncomputable def hushlaw2_DistMakes.J2 (x1 : List (S32)) (x3 : Int) (x85 : Bool) : Option (Bool) := lim (fun k => hushlaw2_DistMakes.j2 k x1 x3 x85)
theorem hushlaw2_DistMakes.J2_is (x1 : List (S32)) (x3 : Int) (x85 : Bool) : LimIs (fun k => hushlaw2_DistMakes.j2 k x1 x3 x85) (hushlaw2_DistMakes.J2 x1 x3 x85) := ⟨fun k => (hushlaw2_DistMakes.mono_l k).2.2 x1 x3 x85, rfl⟩
noncomputable def hushlaw2_DistMakes.F (l0 : List (S32)) (l1 : List (S32)) (l2 : List Int) (a3 : Int) : Option (Bool) := lim (fun k => hushlaw2_DistMakes.f k l0 l1 l2 a3)
theorem hushlaw2_DistMakes.F_is (l0 : List (S32)) (l1 : List (S32)) (l2 : List Int) (a3 : Int) : LimIs (fun k => hushlaw2_DistMakes.f k l0 l1 l2 a3) (hushlaw2_DistMakes.F l0 l1 l2 a3) := ⟨fun k => hushlaw2_DistMakes.mono l0 l1 l2 a3 k, rfl⟩
set_option maxRecDepth 100000 in
theorem hushlaw2_DistMakes.J0_eq (x1 : List (S32)) (x2 : List Int) (x3 : Int) (x44 : Bool) : hushlaw2_DistMakes.J0 x1 x2 x3 x44 = if x44 = true then (some false) else ((dist_Sure.F x2).bind fun bt248 => ((hushref2_Make.F (([(⟨x2, 1⟩ : S32)] : List (S32)))).bind fun bt255 => ((hushref2_Same.F bt248.1 bt255.1).bind fun t259 => (if t259 = true then (hushlaw2_DistMakes.J1 x1 x2 x3 (bt248.2 != bt255.2)) else (hushlaw2_DistMakes.J1 x1 x2 x3 true))))) := by
  refine LimIs.step' (hushlaw2_DistMakes.J0_is x1 x2 x3 x44).1 (b := fun k => if x44 = true then (some false) else ((dist_Sure.f k x2).bind fun bt248 => ((hushref2_Make.f k (([(⟨x2, 1⟩ : S32)] : List (S32)))).bind fun bt255 => ((hushref2_Same.f k bt248.1 bt255.1).bind fun t259 => (if t259 = true then (hushlaw2_DistMakes.j1 k x1 x2 x3 (bt248.2 != bt255.2)) else (hushlaw2_DistMakes.j1 k x1 x2 x3 true)))))) (fun k => by first | rfl | rw [hushlaw2_DistMakes.j0]) ?_
  repeat' first
    | (with_reducible exact dist_Sure.F_is _)
    | (with_reducible exact hushref2_Make.F_is _)
    | (with_reducible exact hushref2_Same.F_is _ _)
    | (with_reducible exact hushlaw2_DistMakes.J1_is _ _ _ _)
    | (with_reducible exact LimIs.const _)
    | (with_reducible refine LimIs.ite ?_ ?_)
    | (with_reducible refine LimIs.bind ?_ (fun _ => ?_))
    | exact dist_Sure.F_is _
    | exact hushref2_Make.F_is _
    | exact hushref2_Same.F_is _ _
    | exact hushlaw2_DistMakes.J1_is _ _ _ _
    | exact LimIs.const _
    | refine LimIs.ite ?_ ?_
    | refine LimIs.bind ?_ (fun _ => ?_)
set_option maxRecDepth 100000 in
theorem hushlaw2_DistMakes.J1_eq (x1 : List (S32)) (x2 : List Int) (x3 : Int) (x65 : Bool) : hushlaw2_DistMakes.J1 x1 x2 x3 x65 = if x65 = true then (some false) else ((dist_Chance.F x1 x2).bind fun bt260 => ((hushref2_Chance.F x1 x2).bind fun bt264 => (if (!(bt260.1 == bt264.1) || (!(bt260.2.1 == bt264.2.1))) = true then (hushlaw2_DistMakes.J2 x1 x3 true) else (hushlaw2_DistMakes.J2 x1 x3 (bt260.2.2 != bt264.2.2))))) := by
  refine LimIs.step' (hushlaw2_DistMakes.J1_is x1 x2 x3 x65).1 (b := fun k => if x65 = true then (some false) else ((dist_Chance.f k x1 x2).bind fun bt260 => ((hushref2_Chance.f k x1 x2).bind fun bt264 => (if (!(bt260.1 == bt264.1) || (!(bt260.2.1 == bt264.2.1))) = true then (hushlaw2_DistMakes.j2 k x1 x3 true) else (hushlaw2_DistMakes.j2 k x1 x3 (bt260.2.2 != bt264.2.2)))))) (fun k => by first | rfl | rw [hushlaw2_DistMakes.j1]) ?_
  repeat' first
    | (with_reducible exact dist_Chance.F_is _ _)
    | (with_reducible exact hushref2_Chance.F_is _ _)
    | (with_reducible exact hushlaw2_DistMakes.J2_is _ _ _)
    | (with_reducible exact LimIs.const _)
    | (with_reducible refine LimIs.ite ?_ ?_)
    | (with_reducible refine LimIs.bind ?_ (fun _ => ?_))
    | exact dist_Chance.F_is _ _
    | exact hushref2_Chance.F_is _ _
    | exact hushlaw2_DistMakes.J2_is _ _ _
    | exact LimIs.const _
    | refine LimIs.ite ?_ ?_
    | refine LimIs.bind ?_ (fun _ => ?_)
set_option maxRecDepth 100000 in
theorem hushlaw2_DistMakes.J2_eq (x1 : List (S32)) (x3 : Int) (x85 : Bool) : hushlaw2_DistMakes.J2 x1 x3 x85 = if x85 = true then (some false) else ((dist_Mean.F x1 x3).bind fun bt268 => ((hushref2_Mean.F x1 x3).bind fun bt271 => (if bt268.1 = bt271.1 then (if bt268.2.1 = bt271.2.1 then (some (bt268.2.2 == bt271.2.2)) else (some false)) else (some false)))) := by
  refine LimIs.step' (hushlaw2_DistMakes.J2_is x1 x3 x85).1 (b := fun k => if x85 = true then (some false) else ((dist_Mean.f k x1 x3).bind fun bt268 => ((hushref2_Mean.f k x1 x3).bind fun bt271 => (if bt268.1 = bt271.1 then (if bt268.2.1 = bt271.2.1 then (some (bt268.2.2 == bt271.2.2)) else (some false)) else (some false))))) (fun k => by first | rfl | rw [hushlaw2_DistMakes.j2]) ?_
  repeat' first
    | (with_reducible exact dist_Mean.F_is _ _)
    | (with_reducible exact hushref2_Mean.F_is _ _)
    | (with_reducible exact LimIs.const _)
    | (with_reducible refine LimIs.ite ?_ ?_)
    | (with_reducible refine LimIs.bind ?_ (fun _ => ?_))
    | exact dist_Mean.F_is _ _
    | exact hushref2_Mean.F_is _ _
    | exact LimIs.const _
    | refine LimIs.ite ?_ ?_
    | refine LimIs.bind ?_ (fun _ => ?_)
set_option maxRecDepth 100000 in
theorem hushlaw2_DistMakes.F_eq (l0 : List (S32)) (l1 : List (S32)) (l2 : List Int) (a3 : Int) : hushlaw2_DistMakes.F l0 l1 l2 a3 = (dist_Make.F l0).bind fun bt237 => ((hushref2_Make.F l0).bind fun bt241 => ((hushref2_Same.F bt237.1 bt241.1).bind fun t245 => (if t245 = true then (if bt237.2 = bt241.2 then ((dist_Wrong.F l1).bind fun t246 => ((hushref2_Wrong.F l1).bind fun t247 => (hushlaw2_DistMakes.J0 l1 l2 a3 (t246 != t247)))) else (hushlaw2_DistMakes.J0 l1 l2 a3 true)) else (hushlaw2_DistMakes.J0 l1 l2 a3 true)))) := by
  refine LimIs.out (?_ : LimIs (fun k => (dist_Make.f k l0).bind fun bt237 => ((hushref2_Make.f k l0).bind fun bt241 => ((hushref2_Same.f k bt237.1 bt241.1).bind fun t245 => (if t245 = true then (if bt237.2 = bt241.2 then ((dist_Wrong.f k l1).bind fun t246 => ((hushref2_Wrong.f k l1).bind fun t247 => (hushlaw2_DistMakes.j0 k l1 l2 a3 (t246 != t247)))) else (hushlaw2_DistMakes.j0 k l1 l2 a3 true)) else (hushlaw2_DistMakes.j0 k l1 l2 a3 true))))) _)
  repeat' first
    | (with_reducible exact dist_Make.F_is _)
    | (with_reducible exact hushref2_Make.F_is _)
    | (with_reducible exact hushref2_Same.F_is _ _)
    | (with_reducible exact dist_Wrong.F_is _)
    | (with_reducible exact hushref2_Wrong.F_is _)
    | (with_reducible exact hushlaw2_DistMakes.J0_is _ _ _ _)
    | (with_reducible exact LimIs.const _)
    | (with_reducible refine LimIs.ite ?_ ?_)
    | (with_reducible refine LimIs.bind ?_ (fun _ => ?_))
    | exact dist_Make.F_is _
    | exact hushref2_Make.F_is _
    | exact hushref2_Same.F_is _ _
    | exact dist_Wrong.F_is _
    | exact hushref2_Wrong.F_is _
    | exact hushlaw2_DistMakes.J0_is _ _ _ _
    | exact LimIs.const _
    | refine LimIs.ite ?_ ?_
    | refine LimIs.bind ?_ (fun _ => ?_)
end Go.Proofs.Ytkemhfhmlcljjaa.PB
end
section
namespace Go.Proofs.Ytkemhfhmlcljjaa.DistPure
set_option linter.unusedVariables false
set_option linter.unusedSimpArgs false
open Go.RowKit Go.Proofs.Ytkemhfhmlcljjaa.PB Go.Proofs.YtkemhfhmlcljjaaW.PrintWords Go.Proofs.YtkemhfhmlcljjaaW.PrintLast Go.Proofs.YtkemhfhmlcljjaaW.PrintMore Go.Proofs.YtkemhfhmlcljjaaW.EvKit
theorem rmake_ev {u d : Int} (hu : -9223372036854775808 ≤ u ∧ u ≤ 9223372036854775807) (hd : -9223372036854775808 ≤ d ∧ d ≤ 9223372036854775807) : Ev (fun k => hushref1_Make.f k u d) (makeS u d) := by
  have hj : ∀ b, b = decide (u < 0 ∨ d < 1) → Ev (fun k => hushref1_Make.j0 k u d b) (makeS u d) := fun b hb =>
    Ev.step (fun k => hushref1_Make.j0.eq_2 _ _ _ k) (make_j (fun h0 h1 => div_ev h0 h1 hu.2 hd.2) hu hd b hb)
  by_cases h : u < 0
  · exact Ev.pos h (hj true (by simp [h]))
  · exact Ev.neg h (hj _ (by simp [h]))
theorem rmakeRF {u d : Int} (hu : -9223372036854775808 ≤ u ∧ u ≤ 9223372036854775807) (hd : -9223372036854775808 ≤ d ∧ d ≤ 9223372036854775807) : hushref1_Make.F u d = some (makeS u d) := (hushref1_Make.F_is u d).of_ev (rmake_ev hu hd)
def lastW (o : List Int) (w : Int) (l : List S32) : Int := l.foldl (fun w p => if p.f0 = o then p.f1 else w) w
theorem lastW_none : ∀ (l : List S32) (o : List Int) (w : Int), (∀ q ∈ l, q.f0 ≠ o) → lastW o w l = w
  | [], _, _, _ => rfl
  | q :: l, o, w, h => by
    have := lastW_none l o w (fun x hx => h x (by simp [hx]))
    unfold lastW at this ⊢
    rw [List.foldl_cons, if_neg (h q (by simp))]
    exact this
theorem lastW_strict : ∀ (l : List S32) (o : List Int), Strict l → lastW o 0 l = wOf l o
  | [], _, _ => rfl
  | q :: l, o, h => by
    have h2 := List.pairwise_cons.1 h
    rw [wOf_cons]
    by_cases c : q.f0 = o
    · have hn : ∀ x ∈ l, x.f0 ≠ o := fun x hx e => by
        have := h2.1 x hx
        rw [e, c, cmpL_self] at this
        omega
      have := lastW_none l o q.f1 hn
      unfold lastW at this ⊢
      rw [List.foldl_cons, if_pos c, this, wOf_none l o hn]
      omega
    · have := lastW_strict l o h2.2
      unfold lastW at this ⊢
      rw [List.foldl_cons, if_neg c, this]
      omega
def chanceP (d : List S32) (o : List Int) : Int × Int × Int := if wrongP d = 0 then makeS (wOf d o) (totOf d) else (0, 0, wrongP d)
theorem chance_loop (d : List S32) (h : Bd d) (o : List Int) : ∀ (n i : Nat) (w : Int), i + n = d.length →
    dist_Chance.L0 d o w d (d.length : Int) (i : Int) = (dist_total.F d).bind fun t => (ratio_Make.F (lastW o w (d.drop i)) t).bind fun bt => some (bt.1, bt.2.1, bt.2.2) := by
  have hl := h.len
  intro n
  induction n with
  | zero =>
    intro i w hi
    rw [dist_Chance.L0_eq, if_neg (by omega), List.drop_of_length_le (show d.length ≤ i by omega)]
    rfl
  | succ n ih =>
    intro i w hi
    have hxi : i < d.length := by omega
    rw [dist_Chance.L0_eq, if_pos (by omega), if_pos (by omega), if_pos (by omega), rd32At hxi, eqF _ _ (h.out _ (mem_at hxi)), Option.bind_some, w1 (by omega), List.drop_eq_getElem_cons hxi]
    have e : ∀ w, lastW o w (d[i] :: d.drop (i + 1)) = lastW o (if d[i].f0 = o then d[i].f1 else w) (d.drop (i + 1)) := fun w => rfl
    by_cases c : d[i].f0 = o
    · rw [if_pos (decide_eq_true c), ih (i + 1) _ (by omega), e, if_pos c]
    · rw [if_neg (by simpa using c), ih (i + 1) _ (by omega), e, if_neg c]
theorem nn {d : List S32} (h : Right d) : ∀ p ∈ d, 0 ≤ p.f1 := fun p hp => (all_ok h.ok p hp).1
theorem chanceF (d : List S32) (h : Bd d) (o : List Int) : dist_Chance.F d o = some (chanceP d o) := by
  rw [dist_Chance.F_eq, wrongF d h, Option.bind_some]
  unfold chanceP
  by_cases c : wrongP d = 0
  · have hr := right_of c
    have hw := wOf_le (nn hr) o
    have := hr.few
    have := hr.pos
    rw [if_pos c, if_pos c]
    have := chance_loop d h o d.length 0 0 (by omega)
    rw [show ((0 : Nat) : Int) = 0 from rfl] at this
    rw [this, totF d h.len (nn hr) (by omega), Option.bind_some, List.drop_zero, lastW_strict d o hr.st, makeF (by omega) (by omega)]
    rfl
  · rw [if_neg c, if_neg c]
theorem rchanceF (d : List S32) (h : Bd d) (o : List Int) (ho : o.length ≤ 1048576) : hushref2_Chance.F d o = some (chanceP d o) := by
  rw [hushref2_Chance.F_eq, rwrongF d h, Option.bind_some]
  unfold chanceP
  by_cases c : wrongP d = 0
  · have hr := right_of c
    have hw := wOf_le (nn hr) o
    have := hr.few
    have := hr.pos
    rw [if_pos c, if_pos c, weightF d o ho h.len h.out (nn hr) (by omega), Option.bind_some, rtotF d h.len (nn hr) (by omega), Option.bind_some, rmakeRF (by omega) (by omega)]
    rfl
  · rw [if_neg c, if_neg c]
def meanP (t place : Int) : List S32 → Int → Int × Int × Int
  | [], a => (wrap64 (Int.tdiv a (Int.gcd a t : Nat)), wrap64 (Int.tdiv t (Int.gcd a t : Nat)), 0)
  | p :: r, a => if place < 0 then (0, 0, 6) else if place ≥ (p.f0.length : Int) then (0, 0, 6) else meanP t place r (a + p.f1 * rd p.f0 place)
theorem rd_small {o : List Int} (h : smallB o = true) {x : Int} (h0 : 0 ≤ x) (h1 : x < (o.length : Int)) : -1073741824 ≤ rd o x ∧ rd o x ≤ 1073741824 := by
  obtain ⟨i, rfl⟩ := Int.eq_ofNat_of_zero_le h0
  have hi : i < o.length := by omega
  rw [rdAt hi]
  unfold smallB at h
  rw [Bool.and_eq_true] at h
  have := List.all_eq_true.1 h.2 _ (List.getElem_mem hi)
  unfold okN at this
  simpa using this
theorem mul_small {w n : Int} (h0 : 0 ≤ w) (h1 : -1073741824 ≤ n ∧ n ≤ 1073741824) : -(w * 1073741824) ≤ w * n ∧ w * n ≤ w * 1073741824 := by
  have h2 := Int.mul_le_mul_of_nonneg_left h1.2 h0
  have h3 := Int.mul_le_mul_of_nonneg_left h1.1 h0
  rw [Int.mul_neg] at h3
  exact ⟨h3, h2⟩
theorem gcdF (t a : Int) (ht : 1 ≤ t) (ha : -9223372036854775807 ≤ a ∧ a ≤ 9223372036854775807) : dist_gcd.F t (mx a (wrap64 (-a))) = some ((Int.gcd a t : Nat) : Int) := by
  obtain ⟨T, rfl⟩ := Int.eq_ofNat_of_zero_le (show 0 ≤ t by omega)
  rw [wrap64_of (by omega) (by omega)]
  have e : mx a (-a) = ((a.natAbs : Nat) : Int) := by unfold mx; split <;> omega
  rw [e]
  exact ((dist_gcd.F_is _ _).iff _).2 (gcd_is T a.natAbs)
theorem mean_loop (d : List S32) (h : Bd d) (hr : Right d) (x : Int) : ∀ (n i : Nat) (a : Int), i + n = d.length → -a + totOf (d.drop i) * 1073741824 ≤ 1152921504606846976 → a + totOf (d.drop i) * 1073741824 ≤ 1152921504606846976 →
    dist_Mean.L0 d x a d (d.length : Int) (i : Int) = some (meanP (totOf d) x (d.drop i) a) ∧ hushref2_Mean.L0 d x a d (d.length : Int) (i : Int) = some (meanP (totOf d) x (d.drop i) a) := by
  have hl := h.len
  have hp := hr.pos
  have hf := hr.few
  have T1 := totF d h.len (nn hr) (by omega)
  have T2 := rtotF d h.len (nn hr) (by omega)
  intro n
  induction n with
  | zero =>
    intro i a hi b1 b2
    rw [List.drop_of_length_le (show d.length ≤ i by omega), totOf_nil] at b1 b2
    have hg := gcd_pos (u := a) (show 1 ≤ totOf d by omega)
    rw [List.drop_of_length_le (show d.length ≤ i by omega)]
    constructor
    · rw [dist_Mean.L0_eq, if_neg (by omega), T1, Option.bind_some, gcdF _ _ (by omega) (by omega), Option.bind_some, if_neg (by omega), Option.bind_some]
      rfl
    · rw [hushref2_Mean.L0_eq, if_neg (by omega), T2]
      by_cases c : a < 0
      · rw [if_pos c, Option.bind_some, wrap64_of (by omega) (by omega), divF (by omega) (by omega) (by omega) (by omega), Option.bind_some, Int.neg_gcd, if_neg (by omega), Option.bind_some]
        rfl
      · rw [if_neg c, Option.bind_some, divF (by omega) (by omega) (by omega) (by omega), Option.bind_some, if_neg (by omega), Option.bind_some]
        rfl
  | succ n ih =>
    intro i a hi b1 b2
    have hxi : i < d.length := by omega
    have hm := okP_iff.1 (List.all_eq_true.1 hr.ok _ (mem_at hxi))
    have hr2 := tot_ge (drop_in (i := i + 1) (nn hr))
    rw [List.drop_eq_getElem_cons hxi, totOf_cons, Int.add_mul] at b1 b2
    rw [List.drop_eq_getElem_cons hxi]
    constructor
    · rw [dist_Mean.L0_eq, if_pos (by omega), if_pos (by omega), if_pos (by omega), rd32At hxi, meanP]
      by_cases c1 : x < 0
      · rw [if_pos c1, if_pos c1]
      · rw [if_neg c1, if_neg c1]
        by_cases c2 : x ≥ (d[i].f0.length : Int)
        · rw [if_pos c2, if_pos c2]
        · have hs := rd_small hm.1 (show 0 ≤ x by omega) (by omega)
          have hq := mul_small hm.2.1 hs
          generalize e : d[i].f1 * rd d[i].f0 x = y at hq ⊢
          rw [if_neg c2, if_neg c2, if_pos (by omega), if_pos (by omega), wrap64_of (x := y) (by omega) (by omega), wrap64_of (x := a + y) (by omega) (by omega), w1 (by omega)]
          exact (ih (i + 1) (a + y) (by omega) (by omega) (by omega)).1
    · rw [hushref2_Mean.L0_eq, if_pos (by omega), if_pos (by omega), if_pos (by omega), rd32At hxi, meanP]
      by_cases c1 : x < 0
      · rw [if_pos c1, if_pos c1]
      · rw [if_neg c1, if_neg c1]
        by_cases c2 : x ≥ (d[i].f0.length : Int)
        · rw [if_pos c2, if_pos c2]
        · have hs := rd_small hm.1 (show 0 ≤ x by omega) (by omega)
          have hq := mul_small hm.2.1 hs
          generalize e : d[i].f1 * rd d[i].f0 x = y at hq ⊢
          rw [if_neg c2, if_neg c2, if_pos (by omega), if_pos (by omega), wrap64_of (x := y) (by omega) (by omega), wrap64_of (x := a + y) (by omega) (by omega), w1 (by omega)]
          exact (ih (i + 1) (a + y) (by omega) (by omega) (by omega)).2
def meanQ (d : List S32) (x : Int) : Int × Int × Int := if wrongP d = 0 then meanP (totOf d) x d 0 else (0, 0, wrongP d)
theorem meanF (d : List S32) (h : Bd d) (x : Int) : dist_Mean.F d x = some (meanQ d x) ∧ hushref2_Mean.F d x = some (meanQ d x) := by
  rw [dist_Mean.F_eq, wrongF d h, Option.bind_some, hushref2_Mean.F_eq, rwrongF d h, Option.bind_some]
  unfold meanQ
  by_cases c : wrongP d = 0
  · have hr := right_of c
    have := hr.few
    have := hr.pos
    have := mean_loop d h hr x d.length 0 0 (by omega) (by rw [List.drop_zero]; omega) (by rw [List.drop_zero]; omega)
    rw [if_pos c, if_pos c, if_pos c]
    exact this
  · rw [if_neg c, if_neg c, if_neg c]
    exact ⟨rfl, rfl⟩
theorem ones (l : List Int) : (l.map (fun _ => 1)).sum = l.length := by
  induction l with
  | nil => rfl
  | cons a l ih => rw [List.map_cons, List.sum_cons, ih, List.length_cons]; omega
theorem bulk_bd : ∀ (l : List S32), l.length ≤ (l.map (fun z => ((((z.f0.map (fun _ => 1)).sum + 1) + 1) + 1))).sum ∧ ∀ p ∈ l, p.f0.length ≤ (l.map (fun z => ((((z.f0.map (fun _ => 1)).sum + 1) + 1) + 1))).sum
  | [] => ⟨by simp, by simp⟩
  | q :: l => by
    obtain ⟨h1, h2⟩ := bulk_bd l
    rw [List.map_cons, List.sum_cons, ones]
    refine ⟨by rw [List.length_cons]; omega, fun p hp => ?_⟩
    rcases List.mem_cons.1 hp with e | e
    · rw [e]; omega
    · have := h2 p e
      omega
end Go.Proofs.Ytkemhfhmlcljjaa.DistPure
namespace Go.Proofs.Ytkemhfhmlcljjaa.Pure
set_option linter.unusedVariables false
open Go.RowKit Go.Proofs.Ytkemhfhmlcljjaa.PB Go.Proofs.YtkemhfhmlcljjaaW.PrintWords Go.Proofs.YtkemhfhmlcljjaaW.PrintLast Go.Proofs.YtkemhfhmlcljjaaW.PrintMore Go.Proofs.YtkemhfhmlcljjaaW.EvKit Go.Proofs.Ytkemhfhmlcljjaa.DistPure
theorem DistMakes : hushlaw2_DistMakes.Pure := by
  intro p0 p1 p2 p3 _ _ _ _ hb
  have b0 := bulk_bd p0
  have b1 := bulk_bd p1
  have b2 := ones p2
  have h0 : Bd p0 := ⟨by omega, fun p hp => by have := b0.2 p hp; omega⟩
  have h1 : Bd p1 := ⟨by omega, fun p hp => by have := b1.2 p hp; omega⟩
  have h2 : p2.length ≤ 1048576 := by omega
  have h3 : Bd [(⟨p2, 1⟩ : S32)] := ⟨by simp, fun p hp => by rw [List.mem_singleton.1 hp]; exact h2⟩
  clear hb b0 b1 b2
  refine (hushlaw2_DistMakes.F_is p0 p1 p2 p3).rounds ?_
  have hm := meanF p1 h1 p3
  have J2 : hushlaw2_DistMakes.J2 p1 p3 false = some true := by
    rw [hushlaw2_DistMakes.J2_eq, if_neg (by decide), hm.1, Option.bind_some, hm.2, Option.bind_some, if_pos rfl, if_pos rfl, beq_self_eq_true]
  have J1 : hushlaw2_DistMakes.J1 p1 p2 p3 false = some true := by
    rw [hushlaw2_DistMakes.J1_eq, if_neg (by decide), chanceF p1 h1 p2, Option.bind_some, rchanceF p1 h1 p2 h2, Option.bind_some, if_neg (by simp), bne_self_eq_false]
    exact J2
  have J0 : hushlaw2_DistMakes.J0 p1 p2 p3 false = some true := by
    rw [hushlaw2_DistMakes.J0_eq, if_neg (by decide), dist_Sure.F_eq, makeF1 _ h3, Option.bind_some, Option.bind_some, rmakeF1 _ h3, Option.bind_some, rsameF _ _ (makeP_bd h3) (makeP_bd h3), Option.bind_some, if_pos (by simp), bne_self_eq_false]
    exact J1
  rw [hushlaw2_DistMakes.F_eq, makeF1 _ h0, Option.bind_some, rmakeF1 _ h0, Option.bind_some, rsameF _ _ (makeP_bd h0) (makeP_bd h0), Option.bind_some, if_pos (by simp), if_pos rfl, wrongF _ h1, Option.bind_some, rwrongF _ h1, Option.bind_some, bne_self_eq_false]
  exact J0
end Go.Proofs.Ytkemhfhmlcljjaa.Pure
end

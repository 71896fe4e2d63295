/- The pure texts of this claim, its functions behind all rounds among them, and small steps. Conditions stand in each theorem. -/
import Derived.Test.YtkemhfhmlcljjaaPPx2
import Derived.Test.YtkemhfhmlcljjaaLim
import Derived.Test.YtkemhfhmlcljjaaPPx0
import Derived.Test.YtkemhfhmlcljjaaPPx5
import Derived.Test.YtkemhfhmlcljjaaPPx1
import Derived.Test.YtkemhfhmlcljjaaPPx4
import Derived.Test.YtkemhfhmlcljjaaPPx3
import Derived.Test.YtkemhfhmlcljjaaPPx7
import Derived.Test.YtkemhfhmlcljjaaPPx6
import Derived.Test.YtkemhfhmlcljjaaPPx8
import Derived.Test.YtkemhfhmlcljjaaPPx10
import Derived.Test.YtkemhfhmlcljjaaPPx9
import Derived.Test.YtkemhfhmlcljjaaPPx11
section
namespace Go.Proofs.Ytkemhfhmlcljjaa.PP
open Go.RowKit Go.Proofs.YtkemhfhmlcljjaaW.PrintWords Go.Proofs.YtkemhfhmlcljjaaW.PrintLast Go.Proofs.YtkemhfhmlcljjaaW.PrintMore
open Go.Proofs.YtkemhfhmlcljjaaW.EvKit
set_option linter.unusedVariables false
end Go.Proofs.Ytkemhfhmlcljjaa.PP
end
section
namespace Go.Proofs.Ytkemhfhmlcljjaa.PP
open Go.RowKit Go.Proofs.YtkemhfhmlcljjaaW.PrintWords Go.Proofs.YtkemhfhmlcljjaaW.PrintLast Go.Proofs.YtkemhfhmlcljjaaW.PrintMore
open Go.Proofs.YtkemhfhmlcljjaaW.EvKit
set_option linter.unusedVariables false
noncomputable def dist_total.L0 (x3 : Int) (x6 : List (S32)) (x7 : Int) (x8 : Int) : Option (Int) := lim (fun k => dist_total.l0 k x3 x6 x7 x8)
theorem dist_total.L0_is (x3 : Int) (x6 : List (S32)) (x7 : Int) (x8 : Int) : LimIs (fun k => dist_total.l0 k x3 x6 x7 x8) (dist_total.L0 x3 x6 x7 x8) := ⟨fun k => (dist_total.mono_l k) x3 x6 x7 x8, rfl⟩
noncomputable def dist_gcd.L0 (x0 : Int) (x1 : Int) : Option (Int) := lim (fun k => dist_gcd.l0 k x0 x1)
theorem dist_gcd.L0_is (x0 : Int) (x1 : Int) : LimIs (fun k => dist_gcd.l0 k x0 x1) (dist_gcd.L0 x0 x1) := ⟨fun k => (dist_gcd.mono_l k) x0 x1, rfl⟩
noncomputable def slices_Compare_int_int.L0 (x0 : List Int) (x1 : List Int) (x9 : List Int) (x10 : Int) (x11 : Int) : Option (Int) := lim (fun k => slices_Compare_int_int.l0 k x0 x1 x9 x10 x11)
theorem slices_Compare_int_int.L0_is (x0 : List Int) (x1 : List Int) (x9 : List Int) (x10 : Int) (x11 : Int) : LimIs (fun k => slices_Compare_int_int.l0 k x0 x1 x9 x10 x11) (slices_Compare_int_int.L0 x0 x1 x9 x10 x11) := ⟨fun k => (slices_Compare_int_int.mono_l k) x0 x1 x9 x10 x11, rfl⟩
noncomputable def dist_total.F (l0 : List (S32)) : Option (Int) := lim (fun k => dist_total.f k l0)
theorem dist_total.F_is (l0 : List (S32)) : LimIs (fun k => dist_total.f k l0) (dist_total.F l0) := ⟨fun k => dist_total.mono l0 k, rfl⟩
noncomputable def dist_gcd.F (a0 : Int) (a1 : Int) : Option (Int) := lim (fun k => dist_gcd.f k a0 a1)
theorem dist_gcd.F_is (a0 : Int) (a1 : Int) : LimIs (fun k => dist_gcd.f k a0 a1) (dist_gcd.F a0 a1) := ⟨fun k => dist_gcd.mono a0 a1 k, rfl⟩
noncomputable def slices_Compare_int_int.F (l0 : List Int) (l1 : List Int) : Option (Int) := lim (fun k => slices_Compare_int_int.f k l0 l1)
theorem slices_Compare_int_int.F_is (l0 : List Int) (l1 : List Int) : LimIs (fun k => slices_Compare_int_int.f k l0 l1) (slices_Compare_int_int.F l0 l1) := ⟨fun k => slices_Compare_int_int.mono l0 l1 k, rfl⟩
set_option maxRecDepth 100000 in
theorem dist_total.L0_eq (x3 : Int) (x6 : List (S32)) (x7 : Int) (x8 : Int) : dist_total.L0 x3 x6 x7 x8 = if x8 < x7 then (if 0 ≤ x8 then (if x8 < (x6.length : Int) then (dist_total.L0 (wrap64 (x3 + ((rd_T32 x6 x8).f1))) x6 x7 (wrap64 (x8 + 1))) else (none)) else (none)) else (some x3) := by
  refine LimIs.step' (dist_total.L0_is x3 x6 x7 x8).1 (b := fun k => if x8 < x7 then (if 0 ≤ x8 then (if x8 < (x6.length : Int) then (dist_total.l0 k (wrap64 (x3 + ((rd_T32 x6 x8).f1))) x6 x7 (wrap64 (x8 + 1))) else (none)) else (none)) else (some x3)) (fun k => by first | rfl | rw [dist_total.l0]) ?_
  repeat' first
    | (with_reducible exact dist_total.L0_is _ _ _ _)
    | (with_reducible exact LimIs.const _)
    | (with_reducible refine LimIs.ite ?_ ?_)
    | (with_reducible refine LimIs.bind ?_ (fun _ => ?_))
    | exact dist_total.L0_is _ _ _ _
    | exact LimIs.const _
    | refine LimIs.ite ?_ ?_
    | refine LimIs.bind ?_ (fun _ => ?_)
set_option maxRecDepth 100000 in
theorem dist_gcd.L0_eq (x0 : Int) (x1 : Int) : dist_gcd.L0 x0 x1 = if x1 = 0 then (some x0) else (dist_gcd.L0 x1 (Int.tmod x0 x1)) := by
  refine LimIs.step' (dist_gcd.L0_is x0 x1).1 (b := fun k => if x1 = 0 then (some x0) else (dist_gcd.l0 k x1 (Int.tmod x0 x1))) (fun k => by first | rfl | rw [dist_gcd.l0]) ?_
  repeat' first
    | (with_reducible exact dist_gcd.L0_is _ _)
    | (with_reducible exact LimIs.const _)
    | (with_reducible refine LimIs.ite ?_ ?_)
    | (with_reducible refine LimIs.bind ?_ (fun _ => ?_))
    | exact dist_gcd.L0_is _ _
    | exact LimIs.const _
    | refine LimIs.ite ?_ ?_
    | refine LimIs.bind ?_ (fun _ => ?_)
set_option maxRecDepth 100000 in
theorem slices_Compare_int_int.L0_eq (x0 : List Int) (x1 : List Int) (x9 : List Int) (x10 : Int) (x11 : Int) : slices_Compare_int_int.L0 x0 x1 x9 x10 x11 = if x11 < x10 then (if 0 ≤ x11 then (if x11 < (x9.length : Int) then (if x11 ≥ (x1.length : Int) then (some 1) else (if x11 < (x1.length : Int) then ((cmp_Compare_int.f (rd x9 x11) (rd x1 x11)).bind fun t113 => (if t113 = 0 then (slices_Compare_int_int.L0 x0 x1 x9 x10 (wrap64 (x11 + 1))) else (some t113))) else (none))) else (none)) else (none)) else (if (x0.length : Int) < (x1.length : Int) then (some (-1)) else (some 0)) := by
  refine LimIs.step' (slices_Compare_int_int.L0_is x0 x1 x9 x10 x11).1 (b := fun k => if x11 < x10 then (if 0 ≤ x11 then (if x11 < (x9.length : Int) then (if x11 ≥ (x1.length : Int) then (some 1) else (if x11 < (x1.length : Int) then ((cmp_Compare_int.f (rd x9 x11) (rd x1 x11)).bind fun t113 => (if t113 = 0 then (slices_Compare_int_int.l0 k x0 x1 x9 x10 (wrap64 (x11 + 1))) else (some t113))) else (none))) else (none)) else (none)) else (if (x0.length : Int) < (x1.length : Int) then (some (-1)) else (some 0))) (fun k => by first | rfl | rw [slices_Compare_int_int.l0]) ?_
  repeat' first
    | (with_reducible exact slices_Compare_int_int.L0_is _ _ _ _ _)
    | (with_reducible exact LimIs.const _)
    | (with_reducible refine LimIs.ite ?_ ?_)
    | (with_reducible refine LimIs.bind ?_ (fun _ => ?_))
    | exact slices_Compare_int_int.L0_is _ _ _ _ _
    | exact LimIs.const _
    | refine LimIs.ite ?_ ?_
    | refine LimIs.bind ?_ (fun _ => ?_)
set_option maxRecDepth 100000 in
theorem dist_total.F_eq (l0 : List (S32)) : dist_total.F l0 = dist_total.L0 0 l0 (l0.length : Int) 0 := by
  refine LimIs.out (?_ : LimIs (fun k => dist_total.l0 k 0 l0 (l0.length : Int) 0) _)
  repeat' first
    | (with_reducible exact dist_total.L0_is _ _ _ _)
    | (with_reducible exact LimIs.const _)
    | (with_reducible refine LimIs.ite ?_ ?_)
    | (with_reducible refine LimIs.bind ?_ (fun _ => ?_))
    | exact dist_total.L0_is _ _ _ _
    | exact LimIs.const _
    | refine LimIs.ite ?_ ?_
    | refine LimIs.bind ?_ (fun _ => ?_)
set_option maxRecDepth 100000 in
theorem dist_gcd.F_eq (a0 : Int) (a1 : Int) : dist_gcd.F a0 a1 = dist_gcd.L0 a0 a1 := by
  refine LimIs.out (?_ : LimIs (fun k => dist_gcd.l0 k a0 a1) _)
  repeat' first
    | (with_reducible exact dist_gcd.L0_is _ _)
    | (with_reducible exact LimIs.const _)
    | (with_reducible refine LimIs.ite ?_ ?_)
    | (with_reducible refine LimIs.bind ?_ (fun _ => ?_))
    | exact dist_gcd.L0_is _ _
    | exact LimIs.const _
    | refine LimIs.ite ?_ ?_
    | refine LimIs.bind ?_ (fun _ => ?_)
set_option maxRecDepth 100000 in
theorem slices_Compare_int_int.F_eq (l0 : List Int) (l1 : List Int) : slices_Compare_int_int.F l0 l1 = slices_Compare_int_int.L0 l0 l1 l0 (l0.length : Int) 0 := by
  refine LimIs.out (?_ : LimIs (fun k => slices_Compare_int_int.l0 k l0 l1 l0 (l0.length : Int) 0) _)
  repeat' first
    | (with_reducible exact slices_Compare_int_int.L0_is _ _ _ _ _)
    | (with_reducible exact LimIs.const _)
    | (with_reducible refine LimIs.ite ?_ ?_)
    | (with_reducible refine LimIs.bind ?_ (fun _ => ?_))
    | exact slices_Compare_int_int.L0_is _ _ _ _ _
    | exact LimIs.const _
    | refine LimIs.ite ?_ ?_
    | refine LimIs.bind ?_ (fun _ => ?_)
end Go.Proofs.Ytkemhfhmlcljjaa.PP
end
section
namespace Go.Proofs.Ytkemhfhmlcljjaa.PP
open Go.RowKit Go.Proofs.YtkemhfhmlcljjaaW.PrintWords Go.Proofs.YtkemhfhmlcljjaaW.PrintLast Go.Proofs.YtkemhfhmlcljjaaW.PrintMore
open Go.Proofs.YtkemhfhmlcljjaaW.EvKit
set_option linter.unusedVariables false
noncomputable def slices_IndexFunc_int_int.L0 (x0 : List Int) (x7 : Int) (x8 : Int) : Option (Int) := lim (fun k => slices_IndexFunc_int_int.l0 k x0 x7 x8)
theorem slices_IndexFunc_int_int.L0_is (x0 : List Int) (x7 : Int) (x8 : Int) : LimIs (fun k => slices_IndexFunc_int_int.l0 k x0 x7 x8) (slices_IndexFunc_int_int.L0 x0 x7 x8) := ⟨fun k => (slices_IndexFunc_int_int.mono_l k) x0 x7 x8, rfl⟩
noncomputable def slices_Equal_int_int.L0 (x0 : List Int) (x1 : List Int) (x12 : Int) (x13 : Int) : Option (Bool) := lim (fun k => slices_Equal_int_int.l0 k x0 x1 x12 x13)
theorem slices_Equal_int_int.L0_is (x0 : List Int) (x1 : List Int) (x12 : Int) (x13 : Int) : LimIs (fun k => slices_Equal_int_int.l0 k x0 x1 x12 x13) (slices_Equal_int_int.L0 x0 x1 x12 x13) := ⟨fun k => (slices_Equal_int_int.mono_l k) x0 x1 x12 x13, rfl⟩
noncomputable def slices_IndexFunc_int_int.F (l0 : List Int) (a1 : Int) : Option (Int) := lim (fun k => slices_IndexFunc_int_int.f k l0 a1)
theorem slices_IndexFunc_int_int.F_is (l0 : List Int) (a1 : Int) : LimIs (fun k => slices_IndexFunc_int_int.f k l0 a1) (slices_IndexFunc_int_int.F l0 a1) := ⟨fun k => slices_IndexFunc_int_int.mono l0 a1 k, rfl⟩
noncomputable def slices_ContainsFunc_int_int.F (l0 : List Int) (a1 : Int) : Option (Bool) := lim (fun k => slices_ContainsFunc_int_int.f k l0 a1)
theorem slices_ContainsFunc_int_int.F_is (l0 : List Int) (a1 : Int) : LimIs (fun k => slices_ContainsFunc_int_int.f k l0 a1) (slices_ContainsFunc_int_int.F l0 a1) := ⟨fun k => slices_ContainsFunc_int_int.mono l0 a1 k, rfl⟩
noncomputable def dist_small.F (l0 : List Int) : Option (Bool) := lim (fun k => dist_small.f k l0)
theorem dist_small.F_is (l0 : List Int) : LimIs (fun k => dist_small.f k l0) (dist_small.F l0) := ⟨fun k => dist_small.mono l0 k, rfl⟩
noncomputable def slices_Equal_int_int.F (l0 : List Int) (l1 : List Int) : Option (Bool) := lim (fun k => slices_Equal_int_int.f k l0 l1)
theorem slices_Equal_int_int.F_is (l0 : List Int) (l1 : List Int) : LimIs (fun k => slices_Equal_int_int.f k l0 l1) (slices_Equal_int_int.F l0 l1) := ⟨fun k => slices_Equal_int_int.mono l0 l1 k, rfl⟩
set_option maxRecDepth 100000 in
theorem slices_IndexFunc_int_int.L0_eq (x0 : List Int) (x7 : Int) (x8 : Int) : slices_IndexFunc_int_int.L0 x0 x7 x8 = if x8 < x7 then (if 0 ≤ x8 then (if x8 < (x0.length : Int) then ((dist_small_1.f (rd x0 x8)).bind fun t102 => (if t102 = true then (some x8) else (slices_IndexFunc_int_int.L0 x0 x7 (wrap64 (x8 + 1))))) else (none)) else (none)) else (some (-1)) := by
  refine LimIs.step' (slices_IndexFunc_int_int.L0_is x0 x7 x8).1 (b := fun k => if x8 < x7 then (if 0 ≤ x8 then (if x8 < (x0.length : Int) then ((dist_small_1.f (rd x0 x8)).bind fun t102 => (if t102 = true then (some x8) else (slices_IndexFunc_int_int.l0 k x0 x7 (wrap64 (x8 + 1))))) else (none)) else (none)) else (some (-1))) (fun k => by first | rfl | rw [slices_IndexFunc_int_int.l0]) ?_
  repeat' first
    | (with_reducible exact slices_IndexFunc_int_int.L0_is _ _ _)
    | (with_reducible exact LimIs.const _)
    | (with_reducible refine LimIs.ite ?_ ?_)
    | (with_reducible refine LimIs.bind ?_ (fun _ => ?_))
    | exact slices_IndexFunc_int_int.L0_is _ _ _
    | exact LimIs.const _
    | refine LimIs.ite ?_ ?_
    | refine LimIs.bind ?_ (fun _ => ?_)
set_option maxRecDepth 100000 in
theorem slices_Equal_int_int.L0_eq (x0 : List Int) (x1 : List Int) (x12 : Int) (x13 : Int) : slices_Equal_int_int.L0 x0 x1 x12 x13 = if x13 < x12 then (if 0 ≤ x13 then (if x13 < (x0.length : Int) then (if x13 < (x1.length : Int) then (if (rd x0 x13) = (rd x1 x13) then (slices_Equal_int_int.L0 x0 x1 x12 (wrap64 (x13 + 1))) else (some false)) else (none)) else (none)) else (none)) else (some true) := by
  refine LimIs.step' (slices_Equal_int_int.L0_is x0 x1 x12 x13).1 (b := fun k => if x13 < x12 then (if 0 ≤ x13 then (if x13 < (x0.length : Int) then (if x13 < (x1.length : Int) then (if (rd x0 x13) = (rd x1 x13) then (slices_Equal_int_int.l0 k x0 x1 x12 (wrap64 (x13 + 1))) else (some false)) else (none)) else (none)) else (none)) else (some true)) (fun k => by first | rfl | rw [slices_Equal_int_int.l0]) ?_
  repeat' first
    | (with_reducible exact slices_Equal_int_int.L0_is _ _ _ _)
    | (with_reducible exact LimIs.const _)
    | (with_reducible refine LimIs.ite ?_ ?_)
    | (with_reducible refine LimIs.bind ?_ (fun _ => ?_))
    | exact slices_Equal_int_int.L0_is _ _ _ _
    | exact LimIs.const _
    | refine LimIs.ite ?_ ?_
    | refine LimIs.bind ?_ (fun _ => ?_)
set_option maxRecDepth 100000 in
theorem slices_IndexFunc_int_int.F_eq (l0 : List Int) (a1 : Int) : slices_IndexFunc_int_int.F l0 a1 = slices_IndexFunc_int_int.L0 l0 (l0.length : Int) 0 := by
  refine LimIs.out (?_ : LimIs (fun k => slices_IndexFunc_int_int.l0 k l0 (l0.length : Int) 0) _)
  repeat' first
    | (with_reducible exact slices_IndexFunc_int_int.L0_is _ _ _)
    | (with_reducible exact LimIs.const _)
    | (with_reducible refine LimIs.ite ?_ ?_)
    | (with_reducible refine LimIs.bind ?_ (fun _ => ?_))
    | exact slices_IndexFunc_int_int.L0_is _ _ _
    | exact LimIs.const _
    | refine LimIs.ite ?_ ?_
    | refine LimIs.bind ?_ (fun _ => ?_)
set_option maxRecDepth 100000 in
theorem slices_ContainsFunc_int_int.F_eq (l0 : List Int) (a1 : Int) : slices_ContainsFunc_int_int.F l0 a1 = (slices_IndexFunc_int_int.F l0 a1).bind fun t103 => (some (decide (t103 ≥ 0))) := by
  refine LimIs.out (?_ : LimIs (fun k => (slices_IndexFunc_int_int.f k l0 a1).bind fun t103 => (some (decide (t103 ≥ 0)))) _)
  repeat' first
    | (with_reducible exact slices_IndexFunc_int_int.F_is _ _)
    | (with_reducible exact LimIs.const _)
    | (with_reducible refine LimIs.ite ?_ ?_)
    | (with_reducible refine LimIs.bind ?_ (fun _ => ?_))
    | exact slices_IndexFunc_int_int.F_is _ _
    | exact LimIs.const _
    | refine LimIs.ite ?_ ?_
    | refine LimIs.bind ?_ (fun _ => ?_)
set_option maxRecDepth 100000 in
theorem dist_small.F_eq (l0 : List Int) : dist_small.F l0 = if (l0.length : Int) ≤ 16 then ((slices_ContainsFunc_int_int.F l0 990000076).bind fun t104 => (some (!t104))) else (some false) := by
  refine LimIs.out (?_ : LimIs (fun k => if (l0.length : Int) ≤ 16 then ((slices_ContainsFunc_int_int.f k l0 990000076).bind fun t104 => (some (!t104))) else (some false)) _)
  repeat' first
    | (with_reducible exact slices_ContainsFunc_int_int.F_is _ _)
    | (with_reducible exact LimIs.const _)
    | (with_reducible refine LimIs.ite ?_ ?_)
    | (with_reducible refine LimIs.bind ?_ (fun _ => ?_))
    | exact slices_ContainsFunc_int_int.F_is _ _
    | exact LimIs.const _
    | refine LimIs.ite ?_ ?_
    | refine LimIs.bind ?_ (fun _ => ?_)
set_option maxRecDepth 100000 in
theorem slices_Equal_int_int.F_eq (l0 : List Int) (l1 : List Int) : slices_Equal_int_int.F l0 l1 = if (l0.length : Int) = (l1.length : Int) then (slices_Equal_int_int.L0 l0 l1 (l0.length : Int) 0) else (some false) := by
  refine LimIs.out (?_ : LimIs (fun k => if (l0.length : Int) = (l1.length : Int) then (slices_Equal_int_int.l0 k l0 l1 (l0.length : Int) 0) else (some false)) _)
  repeat' first
    | (with_reducible exact slices_Equal_int_int.L0_is _ _ _ _)
    | (with_reducible exact LimIs.const _)
    | (with_reducible refine LimIs.ite ?_ ?_)
    | (with_reducible refine LimIs.bind ?_ (fun _ => ?_))
    | exact slices_Equal_int_int.L0_is _ _ _ _
    | exact LimIs.const _
    | refine LimIs.ite ?_ ?_
    | refine LimIs.bind ?_ (fun _ => ?_)
end Go.Proofs.Ytkemhfhmlcljjaa.PP
end
section
namespace Go.Proofs.Ytkemhfhmlcljjaa.PP
open Go.RowKit Go.Proofs.YtkemhfhmlcljjaaW.PrintWords Go.Proofs.YtkemhfhmlcljjaaW.PrintLast Go.Proofs.YtkemhfhmlcljjaaW.PrintMore
open Go.Proofs.YtkemhfhmlcljjaaW.EvKit
set_option linter.unusedVariables false
noncomputable def dist_tidy.F (l0 : List S32) : Option (List S32 × Int) := lim (fun k => dist_tidy.f k l0)
theorem dist_tidy.F_is (l0 : List S32) : LimIs (fun k => dist_tidy.f k l0) (dist_tidy.F l0) := ⟨fun k => dist_tidy.mono l0 k, rfl⟩
set_option maxRecDepth 100000 in
theorem dist_tidy.F_eq (l0 : List S32) : dist_tidy.F l0 = if tGuard l0 = true then some (tDone (tMerge (sortP l0))) else none := by
  refine LimIs.out (?_ : LimIs (fun k => if tGuard l0 = true then some (tDone (tMerge (sortP l0))) else none) _)
  repeat' first
    | (with_reducible exact LimIs.const _)
    | (with_reducible refine LimIs.ite ?_ ?_)
    | (with_reducible refine LimIs.bind ?_ (fun _ => ?_))
    | exact LimIs.const _
    | refine LimIs.ite ?_ ?_
    | refine LimIs.bind ?_ (fun _ => ?_)
end Go.Proofs.Ytkemhfhmlcljjaa.PP
end
section
namespace Go.Proofs.Ytkemhfhmlcljjaa.PP
open Go.RowKit Go.Proofs.YtkemhfhmlcljjaaW.PrintWords Go.Proofs.YtkemhfhmlcljjaaW.PrintLast Go.Proofs.YtkemhfhmlcljjaaW.PrintMore
open Go.Proofs.YtkemhfhmlcljjaaW.EvKit
set_option linter.unusedVariables false
noncomputable def dist_Make.L0 (x4 : List (S32)) (x7 : List (S32)) (x8 : Int) (x9 : Int) : Option ((List (S32)) × Int) := lim (fun k => dist_Make.l0 k x4 x7 x8 x9)
theorem dist_Make.L0_is (x4 : List (S32)) (x7 : List (S32)) (x8 : Int) (x9 : Int) : LimIs (fun k => dist_Make.l0 k x4 x7 x8 x9) (dist_Make.L0 x4 x7 x8 x9) := ⟨fun k => (dist_Make.mono_l k) x4 x7 x8 x9, rfl⟩
noncomputable def dist_Make.F (l0 : List (S32)) : Option ((List (S32)) × Int) := lim (fun k => dist_Make.f k l0)
theorem dist_Make.F_is (l0 : List (S32)) : LimIs (fun k => dist_Make.f k l0) (dist_Make.F l0) := ⟨fun k => dist_Make.mono l0 k, rfl⟩
noncomputable def dist_Sure.F (l0 : List Int) : Option ((List (S32)) × Int) := lim (fun k => dist_Sure.f k l0)
theorem dist_Sure.F_is (l0 : List Int) : LimIs (fun k => dist_Sure.f k l0) (dist_Sure.F l0) := ⟨fun k => dist_Sure.mono l0 k, rfl⟩
noncomputable def hushlaw2_alive.F : Option (Bool) := lim (fun k => hushlaw2_alive.f k)
theorem hushlaw2_alive.F_is : LimIs (fun k => hushlaw2_alive.f k) (hushlaw2_alive.F) := ⟨fun k => hushlaw2_alive.mono k, rfl⟩
set_option maxRecDepth 100000 in
theorem dist_Make.L0_eq (x4 : List (S32)) (x7 : List (S32)) (x8 : Int) (x9 : Int) : dist_Make.L0 x4 x7 x8 x9 = if x9 < x8 then (if 0 ≤ x9 then (if x9 < (x7.length : Int) then ((dist_small.F ((rd_T32 x7 x9).f0)).bind fun t120 => (if t120 = true then (if ((rd_T32 x7 x9).f1) < 0 then (some (([] : List (S32)), 3)) else (if ((rd_T32 x7 x9).f1) > 1073741824 then (some (([] : List (S32)), 3)) else ((slices_Clone_int_int.f ((rd_T32 x7 x9).f0)).bind fun t121 => (if x4.length < 4398046511104 then (dist_Make.L0 (x4 ++ [(⟨t121, (rd_T32 x7 x9).f1⟩ : S32)]) x7 x8 (wrap64 (x9 + 1))) else (none))))) else (some (([] : List (S32)), 3)))) else (none)) else (none)) else ((dist_tidy.F x4).bind fun bt114 => (some (bt114.1, bt114.2))) := by
  refine LimIs.step' (dist_Make.L0_is x4 x7 x8 x9).1 (b := fun k => if x9 < x8 then (if 0 ≤ x9 then (if x9 < (x7.length : Int) then ((dist_small.f k ((rd_T32 x7 x9).f0)).bind fun t120 => (if t120 = true then (if ((rd_T32 x7 x9).f1) < 0 then (some (([] : List (S32)), 3)) else (if ((rd_T32 x7 x9).f1) > 1073741824 then (some (([] : List (S32)), 3)) else ((slices_Clone_int_int.f ((rd_T32 x7 x9).f0)).bind fun t121 => (if x4.length < 4398046511104 then (dist_Make.l0 k (x4 ++ [(⟨t121, (rd_T32 x7 x9).f1⟩ : S32)]) x7 x8 (wrap64 (x9 + 1))) else (none))))) else (some (([] : List (S32)), 3)))) else (none)) else (none)) else ((dist_tidy.f k x4).bind fun bt114 => (some (bt114.1, bt114.2)))) (fun k => by first | rfl | rw [dist_Make.l0]) ?_
  repeat' first
    | (with_reducible exact dist_small.F_is _)
    | (with_reducible exact dist_Make.L0_is _ _ _ _)
    | (with_reducible exact dist_tidy.F_is _)
    | (with_reducible exact LimIs.const _)
    | (with_reducible refine LimIs.ite ?_ ?_)
    | (with_reducible refine LimIs.bind ?_ (fun _ => ?_))
    | exact dist_small.F_is _
    | exact dist_Make.L0_is _ _ _ _
    | exact dist_tidy.F_is _
    | exact LimIs.const _
    | refine LimIs.ite ?_ ?_
    | refine LimIs.bind ?_ (fun _ => ?_)
set_option maxRecDepth 100000 in
theorem dist_Make.F_eq (l0 : List (S32)) : dist_Make.F l0 = dist_Make.L0 ([] : List (S32)) l0 (l0.length : Int) 0 := by
  refine LimIs.out (?_ : LimIs (fun k => dist_Make.l0 k ([] : List (S32)) l0 (l0.length : Int) 0) _)
  repeat' first
    | (with_reducible exact dist_Make.L0_is _ _ _ _)
    | (with_reducible exact LimIs.const _)
    | (with_reducible refine LimIs.ite ?_ ?_)
    | (with_reducible refine LimIs.bind ?_ (fun _ => ?_))
    | exact dist_Make.L0_is _ _ _ _
    | exact LimIs.const _
    | refine LimIs.ite ?_ ?_
    | refine LimIs.bind ?_ (fun _ => ?_)
set_option maxRecDepth 100000 in
theorem dist_Sure.F_eq (l0 : List Int) : dist_Sure.F l0 = (dist_Make.F (([(⟨l0, 1⟩ : S32)] : List (S32)))).bind fun bt130 => (some (bt130.1, bt130.2)) := by
  refine LimIs.out (?_ : LimIs (fun k => (dist_Make.f k (([(⟨l0, 1⟩ : S32)] : List (S32)))).bind fun bt130 => (some (bt130.1, bt130.2))) _)
  repeat' first
    | (with_reducible exact dist_Make.F_is _)
    | (with_reducible exact LimIs.const _)
    | (with_reducible refine LimIs.ite ?_ ?_)
    | (with_reducible refine LimIs.bind ?_ (fun _ => ?_))
    | exact dist_Make.F_is _
    | exact LimIs.const _
    | refine LimIs.ite ?_ ?_
    | refine LimIs.bind ?_ (fun _ => ?_)
set_option maxRecDepth 100000 in
theorem hushlaw2_alive.F_eq : hushlaw2_alive.F = (dist_Sure.F (([3] : List Int))).bind fun bt137 => (if bt137.2 = 0 then (if (bt137.1.length : Int) = 1 then (if 0 < (bt137.1.length : Int) then (some (((rd_T32 bt137.1 0).f1) == 1)) else (none)) else (some false)) else (some false)) := by
  refine LimIs.out (?_ : LimIs (fun k => (dist_Sure.f k (([3] : List Int))).bind fun bt137 => (if bt137.2 = 0 then (if (bt137.1.length : Int) = 1 then (if 0 < (bt137.1.length : Int) then (some (((rd_T32 bt137.1 0).f1) == 1)) else (none)) else (some false)) else (some false))) _)
  repeat' first
    | (with_reducible exact dist_Sure.F_is _)
    | (with_reducible exact LimIs.const _)
    | (with_reducible refine LimIs.ite ?_ ?_)
    | (with_reducible refine LimIs.bind ?_ (fun _ => ?_))
    | exact dist_Sure.F_is _
    | exact LimIs.const _
    | refine LimIs.ite ?_ ?_
    | refine LimIs.bind ?_ (fun _ => ?_)
end Go.Proofs.Ytkemhfhmlcljjaa.PP
end
section
namespace Go.Proofs.Ytkemhfhmlcljjaa.PP
open Go.RowKit Go.Proofs.YtkemhfhmlcljjaaW.PrintWords Go.Proofs.YtkemhfhmlcljjaaW.PrintLast Go.Proofs.YtkemhfhmlcljjaaW.PrintMore
open Go.Proofs.YtkemhfhmlcljjaaW.EvKit
set_option linter.unusedVariables false
noncomputable def api_Part.L0 (x1 : List (S32)) (x15 : List (S32)) (x16 : Int) (x17 : Int) : Option (Bool) := lim (fun k => api_Part.l0 k x1 x15 x16 x17)
theorem api_Part.L0_is (x1 : List (S32)) (x15 : List (S32)) (x16 : Int) (x17 : Int) : LimIs (fun k => api_Part.l0 k x1 x15 x16 x17) (api_Part.L0 x1 x15 x16 x17) := ⟨fun k => (api_Part.mono_l k) x1 x15 x16 x17, rfl⟩
noncomputable def dist_wrongs.L0 (x6 : List (List (S32))) (x7 : Int) (x8 : Int) : Option (Int) := lim (fun k => dist_wrongs.l0 k x6 x7 x8)
theorem dist_wrongs.L0_is (x6 : List (List (S32))) (x7 : Int) (x8 : Int) : LimIs (fun k => dist_wrongs.l0 k x6 x7 x8) (dist_wrongs.L0 x6 x7 x8) := ⟨fun k => (dist_wrongs.mono_l k) x6 x7 x8, rfl⟩
noncomputable def dist_same_1.F (l0_0 : List Int) (a0_1 : Int) (l1_0 : List Int) (a1_1 : Int) : Option (Bool) := lim (fun k => dist_same_1.f k l0_0 a0_1 l1_0 a1_1)
theorem dist_same_1.F_is (l0_0 : List Int) (a0_1 : Int) (l1_0 : List Int) (a1_1 : Int) : LimIs (fun k => dist_same_1.f k l0_0 a0_1 l1_0 a1_1) (dist_same_1.F l0_0 a0_1 l1_0 a1_1) := ⟨fun k => dist_same_1.mono l0_0 a0_1 l1_0 a1_1 k, rfl⟩
noncomputable def api_Part.F (l0 : List (S32)) (l1 : List (S32)) (a2 : Int) : Option (Bool) := lim (fun k => api_Part.f k l0 l1 a2)
theorem api_Part.F_is (l0 : List (S32)) (l1 : List (S32)) (a2 : Int) : LimIs (fun k => api_Part.f k l0 l1 a2) (api_Part.F l0 l1 a2) := ⟨fun k => api_Part.mono l0 l1 a2 k, rfl⟩
noncomputable def dist_same.F (l0 : List (S32)) (l1 : List (S32)) : Option (Bool) := lim (fun k => dist_same.f k l0 l1)
theorem dist_same.F_is (l0 : List (S32)) (l1 : List (S32)) : LimIs (fun k => dist_same.f k l0 l1) (dist_same.F l0 l1) := ⟨fun k => dist_same.mono l0 l1 k, rfl⟩
noncomputable def dist_Wrong.F (l0 : List (S32)) : Option (Int) := lim (fun k => dist_Wrong.f k l0)
theorem dist_Wrong.F_is (l0 : List (S32)) : LimIs (fun k => dist_Wrong.f k l0) (dist_Wrong.F l0) := ⟨fun k => dist_Wrong.mono l0 k, rfl⟩
noncomputable def dist_wrongs.F (l0 : List (List (S32))) : Option (Int) := lim (fun k => dist_wrongs.f k l0)
theorem dist_wrongs.F_is (l0 : List (List (S32))) : LimIs (fun k => dist_wrongs.f k l0) (dist_wrongs.F l0) := ⟨fun k => dist_wrongs.mono l0 k, rfl⟩
set_option maxRecDepth 100000 in
theorem api_Part.L0_eq (x1 : List (S32)) (x15 : List (S32)) (x16 : Int) (x17 : Int) : api_Part.L0 x1 x15 x16 x17 = if x17 < x16 then (if 0 ≤ x17 then (if x17 < (x15.length : Int) then (if x17 < (x1.length : Int) then ((dist_same_1.F ((rd_T32 x15 x17).f0) ((rd_T32 x15 x17).f1) ((rd_T32 x1 x17).f0) ((rd_T32 x1 x17).f1)).bind fun t149 => (if t149 = true then (api_Part.L0 x1 x15 x16 (wrap64 (x17 + 1))) else (some false))) else (none)) else (none)) else (none)) else (some true) := by
  refine LimIs.step' (api_Part.L0_is x1 x15 x16 x17).1 (b := fun k => if x17 < x16 then (if 0 ≤ x17 then (if x17 < (x15.length : Int) then (if x17 < (x1.length : Int) then ((dist_same_1.f k ((rd_T32 x15 x17).f0) ((rd_T32 x15 x17).f1) ((rd_T32 x1 x17).f0) ((rd_T32 x1 x17).f1)).bind fun t149 => (if t149 = true then (api_Part.l0 k x1 x15 x16 (wrap64 (x17 + 1))) else (some false))) else (none)) else (none)) else (none)) else (some true)) (fun k => by first | rfl | rw [api_Part.l0]) ?_
  repeat' first
    | (with_reducible exact dist_same_1.F_is _ _ _ _)
    | (with_reducible exact api_Part.L0_is _ _ _ _)
    | (with_reducible exact LimIs.const _)
    | (with_reducible refine LimIs.ite ?_ ?_)
    | (with_reducible refine LimIs.bind ?_ (fun _ => ?_))
    | exact dist_same_1.F_is _ _ _ _
    | exact api_Part.L0_is _ _ _ _
    | exact LimIs.const _
    | refine LimIs.ite ?_ ?_
    | refine LimIs.bind ?_ (fun _ => ?_)
set_option maxRecDepth 100000 in
theorem dist_wrongs.L0_eq (x6 : List (List (S32))) (x7 : Int) (x8 : Int) : dist_wrongs.L0 x6 x7 x8 = if x8 < x7 then (if 0 ≤ x8 then (if x8 < (x6.length : Int) then ((dist_Wrong.F (rd_L3 x6 x8)).bind fun t157 => (if t157 = 0 then (dist_wrongs.L0 x6 x7 (wrap64 (x8 + 1))) else (some t157))) else (none)) else (none)) else (some 0) := by
  refine LimIs.step' (dist_wrongs.L0_is x6 x7 x8).1 (b := fun k => if x8 < x7 then (if 0 ≤ x8 then (if x8 < (x6.length : Int) then ((dist_Wrong.f k (rd_L3 x6 x8)).bind fun t157 => (if t157 = 0 then (dist_wrongs.l0 k x6 x7 (wrap64 (x8 + 1))) else (some t157))) else (none)) else (none)) else (some 0)) (fun k => by first | rfl | rw [dist_wrongs.l0]) ?_
  repeat' first
    | (with_reducible exact dist_Wrong.F_is _)
    | (with_reducible exact dist_wrongs.L0_is _ _ _)
    | (with_reducible exact LimIs.const _)
    | (with_reducible refine LimIs.ite ?_ ?_)
    | (with_reducible refine LimIs.bind ?_ (fun _ => ?_))
    | exact dist_Wrong.F_is _
    | exact dist_wrongs.L0_is _ _ _
    | exact LimIs.const _
    | refine LimIs.ite ?_ ?_
    | refine LimIs.bind ?_ (fun _ => ?_)
set_option maxRecDepth 100000 in
theorem dist_same_1.F_eq (l0_0 : List Int) (a0_1 : Int) (l1_0 : List Int) (a1_1 : Int) : dist_same_1.F l0_0 a0_1 l1_0 a1_1 = if a0_1 = a1_1 then ((slices_Equal_int_int.F l0_0 l1_0).bind fun t144 => (some t144)) else (some false) := by
  refine LimIs.out (?_ : LimIs (fun k => if a0_1 = a1_1 then ((slices_Equal_int_int.f k l0_0 l1_0).bind fun t144 => (some t144)) else (some false)) _)
  repeat' first
    | (with_reducible exact slices_Equal_int_int.F_is _ _)
    | (with_reducible exact LimIs.const _)
    | (with_reducible refine LimIs.ite ?_ ?_)
    | (with_reducible refine LimIs.bind ?_ (fun _ => ?_))
    | exact slices_Equal_int_int.F_is _ _
    | exact LimIs.const _
    | refine LimIs.ite ?_ ?_
    | refine LimIs.bind ?_ (fun _ => ?_)
set_option maxRecDepth 100000 in
theorem api_Part.F_eq (l0 : List (S32)) (l1 : List (S32)) (a2 : Int) : api_Part.F l0 l1 a2 = if (l0.length : Int) = (l1.length : Int) then (api_Part.L0 l1 l0 (l0.length : Int) 0) else (some false) := by
  refine LimIs.out (?_ : LimIs (fun k => if (l0.length : Int) = (l1.length : Int) then (api_Part.l0 k l1 l0 (l0.length : Int) 0) else (some false)) _)
  repeat' first
    | (with_reducible exact api_Part.L0_is _ _ _ _)
    | (with_reducible exact LimIs.const _)
    | (with_reducible refine LimIs.ite ?_ ?_)
    | (with_reducible refine LimIs.bind ?_ (fun _ => ?_))
    | exact api_Part.L0_is _ _ _ _
    | exact LimIs.const _
    | refine LimIs.ite ?_ ?_
    | refine LimIs.bind ?_ (fun _ => ?_)
set_option maxRecDepth 100000 in
theorem dist_same.F_eq (l0 : List (S32)) (l1 : List (S32)) : dist_same.F l0 l1 = (api_Part.F l0 l1 990000082).bind fun t150 => (some t150) := by
  refine LimIs.out (?_ : LimIs (fun k => (api_Part.f k l0 l1 990000082).bind fun t150 => (some t150)) _)
  repeat' first
    | (with_reducible exact api_Part.F_is _ _ _)
    | (with_reducible exact LimIs.const _)
    | (with_reducible refine LimIs.ite ?_ ?_)
    | (with_reducible refine LimIs.bind ?_ (fun _ => ?_))
    | exact api_Part.F_is _ _ _
    | exact LimIs.const _
    | refine LimIs.ite ?_ ?_
    | refine LimIs.bind ?_ (fun _ => ?_)
set_option maxRecDepth 100000 in
theorem dist_Wrong.F_eq (l0 : List (S32)) : dist_Wrong.F l0 = (dist_Make.F l0).bind fun bt151 => (if bt151.2 = 0 then ((dist_same.F l0 bt151.1).bind fun t155 => (if t155 = true then (some bt151.2) else (some (2 : Int)))) else (some bt151.2)) := by
  refine LimIs.out (?_ : LimIs (fun k => (dist_Make.f k l0).bind fun bt151 => (if bt151.2 = 0 then ((dist_same.f k l0 bt151.1).bind fun t155 => (if t155 = true then (some bt151.2) else (some (2 : Int)))) else (some bt151.2))) _)
  repeat' first
    | (with_reducible exact dist_Make.F_is _)
    | (with_reducible exact dist_same.F_is _ _)
    | (with_reducible exact LimIs.const _)
    | (with_reducible refine LimIs.ite ?_ ?_)
    | (with_reducible refine LimIs.bind ?_ (fun _ => ?_))
    | exact dist_Make.F_is _
    | exact dist_same.F_is _ _
    | exact LimIs.const _
    | refine LimIs.ite ?_ ?_
    | refine LimIs.bind ?_ (fun _ => ?_)
set_option maxRecDepth 100000 in
theorem dist_wrongs.F_eq (l0 : List (List (S32))) : dist_wrongs.F l0 = dist_wrongs.L0 l0 (l0.length : Int) 0 := by
  refine LimIs.out (?_ : LimIs (fun k => dist_wrongs.l0 k l0 (l0.length : Int) 0) _)
  repeat' first
    | (with_reducible exact dist_wrongs.L0_is _ _ _)
    | (with_reducible exact LimIs.const _)
    | (with_reducible refine LimIs.ite ?_ ?_)
    | (with_reducible refine LimIs.bind ?_ (fun _ => ?_))
    | exact dist_wrongs.L0_is _ _ _
    | exact LimIs.const _
    | refine LimIs.ite ?_ ?_
    | refine LimIs.bind ?_ (fun _ => ?_)
end Go.Proofs.Ytkemhfhmlcljjaa.PP
end
section
namespace Go.Proofs.Ytkemhfhmlcljjaa.DistPure
set_option linter.unusedVariables false
set_option linter.unusedSimpArgs false
open Go.RowKit Go.Proofs.Ytkemhfhmlcljjaa.PP Go.Proofs.YtkemhfhmlcljjaaW.PrintWords Go.Proofs.YtkemhfhmlcljjaaW.PrintLast Go.Proofs.YtkemhfhmlcljjaaW.PrintMore Go.Proofs.YtkemhfhmlcljjaaW.EvKit
theorem rdAt {xs : List Int} {i : Nat} (h : i < xs.length) : rd xs (i : Int) = xs[i] := by
  rw [rd_nat, List.getD_eq_getElem?_getD, List.getElem?_eq_getElem h]; rfl
theorem rd32At {xs : List S32} {i : Nat} (h : i < xs.length) : rd_T32 xs (i : Int) = xs[i] := by
  unfold rd_T32
  rw [Int.toNat_natCast, List.getD_eq_getElem?_getD, List.getElem?_eq_getElem h]; rfl
theorem w1 {i : Nat} (h : i < 4611686018427387904) : wrap64 ((i : Int) + 1) = ((i + 1 : Nat) : Int) := by rw [wrap64_of (by omega) (by omega)]; rfl
theorem eqF (x y : List Int) (hx : x.length ≤ 1048576) : slices_Equal_int_int.F x y = some (decide (x = y)) :=
  ((slices_Equal_int_int.F_is x y).iff _).2 (eq_is x y (by omega))
def okN (n : Int) : Bool := decide (-1073741824 ≤ n) && decide (n ≤ 1073741824)
def smallB (o : List Int) : Bool := decide (o.length ≤ 16) && o.all okN
theorem small1 (n : Int) : dist_small_1.f n = some (!okN n) := by
  unfold dist_small_1.f okN
  by_cases h : n < -1073741824
  · rw [if_pos h]; congr 1; symm; simp; omega
  · rw [if_neg h]; congr 1; rw [Bool.eq_iff_iff]; simp; omega
theorem index_loop (x : List Int) (hx : x.length ≤ 1048576) : ∀ (n i : Nat), i + n = x.length →
    ∃ r, slices_IndexFunc_int_int.L0 x (x.length : Int) (i : Int) = some r ∧ decide (r ≥ 0) = !((x.drop i).all okN) := by
  intro n
  induction n with
  | zero =>
    intro i hi
    refine ⟨-1, ?_, ?_⟩
    · rw [slices_IndexFunc_int_int.L0_eq, if_neg (by omega)]
    · rw [List.drop_of_length_le (show x.length ≤ i by omega)]; rfl
  | succ n ih =>
    intro i hi
    have hxi : i < x.length := by omega
    rw [slices_IndexFunc_int_int.L0_eq, if_pos (by omega), if_pos (by omega), if_pos (by omega), rdAt hxi, small1, Option.bind_some, List.drop_eq_getElem_cons hxi, List.all_cons]
    cases h : okN x[i] with
    | false => exact ⟨i, if_pos rfl, by simp⟩
    | true =>
      obtain ⟨r, h1, h2⟩ := ih (i + 1) (by omega)
      refine ⟨r, ?_, by rw [h2]; rfl⟩
      rw [if_neg (by decide), w1 (by omega)]
      exact h1
theorem smallF (o : List Int) (h : o.length ≤ 1048576) : dist_small.F o = some (smallB o) := by
  rw [dist_small.F_eq]
  unfold smallB
  by_cases c : o.length ≤ 16
  · obtain ⟨r, h1, h2⟩ := index_loop o h o.length 0 (by omega)
    rw [if_pos (by omega), slices_ContainsFunc_int_int.F_eq, slices_IndexFunc_int_int.F_eq]
    rw [show (0 : Int) = ((0 : Nat) : Int) from rfl, h1]
    rw [Option.bind_some, Option.bind_some]
    have h2 : decide (r ≥ ((0 : Nat) : Int)) = !((o.drop 0).all okN) := h2
    rw [h2, List.drop_zero, decide_eq_true c]
    simp
  · rw [if_neg (by omega), decide_eq_false c]; rfl
theorem totOf_cons (p : S32) (l : List S32) : totOf (p :: l) = p.f1 + totOf l := rfl
theorem totOf_nil : totOf [] = 0 := rfl
theorem wOf_le : ∀ {l : List S32}, (∀ p ∈ l, 0 ≤ p.f1) → ∀ o, 0 ≤ wOf l o ∧ wOf l o ≤ totOf l
  | [], _, _ => ⟨Int.le_refl _, Int.le_refl _⟩
  | p :: l, h, o => by
    have := wOf_le (l := l) (fun q hq => h q (by simp [hq])) o
    have := h p (by simp)
    rw [totOf_cons, wOf_cons]
    split <;> omega
theorem tot_bd : ∀ {l : List S32}, (∀ p ∈ l, 0 ≤ p.f1 ∧ p.f1 ≤ 1073741824) → totOf l ≤ 1073741824 * (l.length : Int)
  | [], _ => Int.le_refl _
  | p :: l, h => by
    have := tot_bd (l := l) (fun q hq => h q (by simp [hq]))
    have := h p (by simp)
    rw [totOf_cons, List.length_cons]; omega
theorem totF (l : List S32) (hl : l.length ≤ 1048576) (h0 : ∀ p ∈ l, 0 ≤ p.f1) (ht : totOf l ≤ 4611686018427387904) : dist_total.F l = some (totOf l) :=
  ((dist_total.F_is l).iff _).2 (total_is l (by omega) h0 ht)
theorem mem_at {l : List S32} {i : Nat} (h : i < l.length) : l[i] ∈ l := List.getElem_mem h
end Go.Proofs.Ytkemhfhmlcljjaa.DistPure
end
section
namespace Go.Proofs.Ytkemhfhmlcljjaa.DistPure
set_option linter.unusedVariables false
set_option linter.unusedSimpArgs false
open Go.RowKit Go.Proofs.Ytkemhfhmlcljjaa.PP Go.Proofs.YtkemhfhmlcljjaaW.PrintWords Go.Proofs.YtkemhfhmlcljjaaW.PrintLast Go.Proofs.YtkemhfhmlcljjaaW.PrintMore Go.Proofs.YtkemhfhmlcljjaaW.EvKit
theorem gcd_pos {u d : Int} (h : 1 ≤ d) : 0 < Int.gcd u d := by
  rcases Nat.eq_zero_or_pos (Int.gcd u d) with h0 | h0
  · have := (Int.gcd_eq_zero_iff.1 h0).2
    omega
  · exact h0
theorem quot {u : Int} {g : Nat} (hu : 0 ≤ u) (hu2 : u ≤ 9223372036854775807) : wrap64 (Int.tdiv u (g : Int)) = u / (g : Int) := by
  rw [Int.tdiv_eq_ediv_of_nonneg hu]
  have h0 : 0 ≤ u / (g : Int) := Int.ediv_nonneg hu (by omega)
  have h1 : u / (g : Int) ≤ u := Int.ediv_le_self _ hu
  exact wrap64_of (by omega) (by omega)
end Go.Proofs.Ytkemhfhmlcljjaa.DistPure
end
section
namespace Go.Proofs.Ytkemhfhmlcljjaa.DistPure
set_option linter.unusedVariables false
set_option linter.unusedSimpArgs false
open Go.RowKit Go.Proofs.Ytkemhfhmlcljjaa.PP Go.Proofs.YtkemhfhmlcljjaaW.PrintWords Go.Proofs.YtkemhfhmlcljjaaW.PrintLast Go.Proofs.YtkemhfhmlcljjaaW.PrintMore Go.Proofs.YtkemhfhmlcljjaaW.EvKit
def Outs (l : List S32) (x : List Int) : Prop := ∃ p ∈ l, p.f0 = x ∧ 0 < p.f1
theorem wOf_ge : ∀ {l : List S32}, (∀ p ∈ l, 0 ≤ p.f1) → ∀ {p : S32}, p ∈ l → p.f1 ≤ wOf l p.f0
  | [], _, p, h => by cases h
  | q :: l, h0, p, h => by
    have h1 := h0 q (by simp)
    have h2 : ∀ p ∈ l, 0 ≤ p.f1 := fun x hx => h0 x (by simp [hx])
    rw [wOf_cons]
    rcases List.mem_cons.1 h with e | e
    · subst e
      rw [if_pos rfl]
      have := (wOf_le h2 p.f0).1
      omega
    · have := wOf_ge h2 e
      split <;> omega
theorem wOf_some : ∀ {l : List S32}, (∀ p ∈ l, 0 ≤ p.f1) → ∀ {o : List Int}, 0 < wOf l o → Outs l o
  | [], _, _, h => absurd h (Int.lt_irrefl 0)
  | q :: l, h0, o, h => by
    have h1 := h0 q (by simp)
    rw [wOf_cons] at h
    by_cases c : q.f0 = o ∧ 0 < q.f1
    · exact ⟨q, by simp, c⟩
    · have h2 : 0 < wOf l o := by
        by_cases e : q.f0 = o
        · rw [if_pos e] at h
          have : ¬ 0 < q.f1 := fun x => c ⟨e, x⟩
          omega
        · rw [if_neg e] at h; omega
      obtain ⟨p, hp, e⟩ := wOf_some (fun x hx => h0 x (by simp [hx])) h2
      exact ⟨p, by simp [hp], e⟩
theorem outs_iff {l D : List S32} (h : Canon l D) (h0 : ∀ p ∈ l, 0 ≤ p.f1) (x : List Int) : Outs l x ↔ ∃ q ∈ D, q.f0 = x := by
  have d0 : ∀ p ∈ D, 0 ≤ p.f1 := fun p hp => Int.le_of_lt (h.pos p hp)
  constructor
  · rintro ⟨p, hp, e, hpos⟩
    have := wOf_ge h0 hp
    rw [e, ← h.w] at this
    exact wOf_mem (by omega)
  · rintro ⟨q, hq, e⟩
    have := wOf_ge d0 hq
    have := h.pos q hq
    subst e
    exact wOf_some h0 (by rw [← h.w]; omega)
def Least (S : List Int → Prop) (o : List Int) (f : Bool) : Prop := (f = true → S o ∧ ∀ x, S x → cmpL o x ≤ 0) ∧ (f = false → ∀ x, ¬ S x)
theorem Least.new {S S' : List Int → Prop} {o v : List Int} (h : Least S o false) (hS : ∀ x, S' x ↔ S x ∨ x = v) : Least S' v true :=
  ⟨fun _ => ⟨(hS v).2 (.inr rfl), fun x hx => by
    rcases (hS x).1 hx with h1 | h1
    · exact absurd h1 (h.2 rfl x)
    · rw [h1, cmpL_self]; exact Int.le_refl 0⟩, fun c => by cases c⟩
theorem Least.lt {S S' : List Int → Prop} {o v : List Int} (h : Least S o true) (c : cmpL v o < 0) (hS : ∀ x, S' x ↔ S x ∨ x = v) : Least S' v true :=
  ⟨fun _ => ⟨(hS v).2 (.inr rfl), fun x hx => by
    rcases (hS x).1 hx with h1 | h1
    · exact cmpL_le_trans _ _ _ (Int.le_of_lt c) ((h.1 rfl).2 x h1)
    · rw [h1, cmpL_self]; exact Int.le_refl 0⟩, fun c => by cases c⟩
theorem Least.same {S S' : List Int → Prop} {o : List Int} {f : Bool} (h : Least S o f) (hS : ∀ x, S' x ↔ S x) : Least S' o f :=
  ⟨fun c => ⟨(hS o).2 (h.1 c).1, fun x hx => (h.1 c).2 x ((hS x).1 hx)⟩, fun c x hx => h.2 c x ((hS x).1 hx)⟩
theorem take_one {l : List S32} {i : Nat} (h : i < l.length) : l.take (i + 1) = l.take i ++ [l[i]] := by
  rw [List.take_add_one, List.getElem?_eq_getElem h]; rfl
theorem one_le {l : List S32} (h0 : ∀ p ∈ l, 0 ≤ p.f1) {p : S32} (h : p ∈ l) : p.f1 ≤ totOf l := by
  have h1 := wOf_ge h0 h
  have h2 := (wOf_le h0 p.f0).2
  omega
theorem tStep_len (d : List S32) (p : S32) : (tStep d p).length ≤ d.length + 1 := by
  unfold tStep
  split
  · omega
  · split
    · split
      · rw [List.length_append, List.length_dropLast, List.length_singleton]; omega
      · rw [List.length_append, List.length_singleton]; omega
    · rw [List.length_append, List.length_singleton]; omega
theorem tFold_len : ∀ (l d : List S32), (l.foldl tStep d).length ≤ d.length + l.length
  | [], d => by simp
  | p :: l, d => by
    have := tFold_len l (tStep d p)
    have := tStep_len d p
    rw [List.foldl_cons, List.length_cons]; omega
theorem tMerge_len (l : List S32) : (tMerge (sortP l)).length ≤ l.length := by
  have := tFold_len (sortP l) []
  rw [(sortP_perm l).length_eq, List.length_nil] at this
  unfold tMerge
  omega
theorem totOf_app : ∀ (a b : List S32), totOf (a ++ b) = totOf a + totOf b
  | [], b => by rw [totOf_nil]; exact (Int.zero_add _).symm
  | p :: a, b => by rw [List.cons_append, totOf_cons, totOf_cons, totOf_app a b]; omega
theorem totOf_perm {a b : List S32} (h : a.Perm b) : totOf a = totOf b := isum_perm (h.map _)
theorem tStep_tot (d : List S32) (p : S32) : totOf (tStep d p) = totOf d + p.f1 := by
  unfold tStep
  split
  · omega
  · split
    · rename_i q hq
      obtain ⟨d0, e⟩ : ∃ d0, d = d0 ++ [q] := List.getLast?_eq_some_iff.1 hq
      subst e
      split
      · rw [List.dropLast_concat, totOf_app, totOf_app, totOf_cons, totOf_cons, totOf_nil]
        show _ + (q.f1 + p.f1 + 0) = _
        omega
      · rw [totOf_app _ [p], totOf_cons p, totOf_nil]; omega
    · rw [totOf_app, totOf_cons, totOf_nil]; omega
theorem tFold_tot : ∀ (l d : List S32), totOf (l.foldl tStep d) = totOf d + totOf l
  | [], d => by rw [totOf_nil]; exact (Int.add_zero _).symm
  | p :: l, d => by rw [List.foldl_cons, tFold_tot, tStep_tot, totOf_cons]; omega
theorem tMerge_tot (l : List S32) : totOf (tMerge (sortP l)) = totOf l := by
  unfold tMerge
  rw [tFold_tot, totOf_perm (sortP_perm l), totOf_nil]; omega
end Go.Proofs.Ytkemhfhmlcljjaa.DistPure
end
section
namespace Go.Proofs.Ytkemhfhmlcljjaa.DistPure
set_option linter.unusedVariables false
set_option linter.unusedSimpArgs false
open Go.RowKit Go.Proofs.Ytkemhfhmlcljjaa.PP Go.Proofs.YtkemhfhmlcljjaaW.PrintWords Go.Proofs.YtkemhfhmlcljjaaW.PrintLast Go.Proofs.YtkemhfhmlcljjaaW.PrintMore Go.Proofs.YtkemhfhmlcljjaaW.EvKit
instance : DecidableEq S32 := fun p q => decidable_of_iff (p.f1 = q.f1 ∧ p.f0 = q.f0) (by cases p; cases q; simp only [S32.mk.injEq]; exact And.comm)
structure Bd (l : List S32) : Prop where
  len : l.length ≤ 1048576
  out : ∀ p ∈ l, p.f0.length ≤ 1048576
def okP (p : S32) : Bool := smallB p.f0 && (decide (0 ≤ p.f1) && decide (p.f1 ≤ 1073741824))
theorem okP_iff {p : S32} : okP p = true ↔ smallB p.f0 = true ∧ 0 ≤ p.f1 ∧ p.f1 ≤ 1073741824 := by simp [okP]
def makeP (l : List S32) : List S32 × Int := if l.all okP = true then tDone (tMerge (sortP l)) else ([], 3)
theorem all_ok {l : List S32} (h : l.all okP = true) : ∀ p ∈ l, 0 ≤ p.f1 ∧ p.f1 ≤ 1073741824 := fun p hp => (okP_iff.1 (List.all_eq_true.1 h p hp)).2
theorem all_tot {l : List S32} (h : l.all okP = true) (hl : l.length ≤ 1048576) : totOf l ≤ 4611686018427387904 := by
  have := tot_bd (all_ok h)
  omega
theorem tidyF (l : List S32) (hl : l.length ≤ 1048576) (h : l.all okP = true) : dist_tidy.F l = some (tDone (tMerge (sortP l))) := by
  rw [dist_tidy.F_eq, if_pos]
  unfold tGuard
  have := all_tot h hl
  simp only [Bool.and_eq_true, decide_eq_true_eq, List.all_eq_true]
  exact ⟨⟨by omega, fun p hp => (all_ok h p hp).1⟩, this⟩
theorem cloneF (o : List Int) (h : o.length ≤ 1048576) : slices_Clone_int_int.f o = some o := by
  unfold slices_Clone_int_int.f
  rw [if_pos (by omega)]
theorem make_loop (l : List S32) (h : Bd l) : ∀ (n i : Nat), i + n = l.length → (l.take i).all okP = true →
    dist_Make.L0 (l.take i) l (l.length : Int) (i : Int) = some (if (l.drop i).all okP = true then tDone (tMerge (sortP l)) else ([], 3)) := by
  have hl := h.len
  intro n
  induction n with
  | zero =>
    intro i hi ha
    rw [List.take_of_length_le (show l.length ≤ i by omega)] at ha ⊢
    rw [dist_Make.L0_eq, if_neg (by omega), tidyF l h.len ha, Option.bind_some, List.drop_of_length_le (show l.length ≤ i by omega)]
    rfl
  | succ n ih =>
    intro i hi ha
    have hxi : i < l.length := by omega
    have ho := h.out _ (mem_at hxi)
    rw [dist_Make.L0_eq, if_pos (by omega), if_pos (by omega), if_pos (by omega), rd32At hxi, smallF _ ho, Option.bind_some, List.drop_eq_getElem_cons hxi, List.all_cons]
    have e : okP l[i] = (smallB l[i].f0 && (decide (0 ≤ l[i].f1) && decide (l[i].f1 ≤ 1073741824))) := rfl
    cases c : smallB l[i].f0 with
    | false =>
      rw [if_neg (by decide), e, c]
      rfl
    | true =>
      rw [if_pos rfl]
      by_cases c1 : l[i].f1 < 0
      · rw [if_pos c1, if_neg]
        rw [e, decide_eq_false (show ¬ 0 ≤ l[i].f1 by omega)]
        simp
      · rw [if_neg c1]
        by_cases c2 : l[i].f1 > 1073741824
        · rw [if_pos c2, if_neg]
          rw [e, decide_eq_false (show ¬ l[i].f1 ≤ 1073741824 by omega)]
          simp
        · have hok : okP l[i] = true := okP_iff.2 ⟨c, by omega, by omega⟩
          rw [if_neg c2, cloneF _ ho, Option.bind_some, if_pos (by rw [List.length_take]; omega), hok, Bool.true_and, w1 (by omega)]
          have e2 : l.take i ++ [(⟨l[i].f0, l[i].f1⟩ : S32)] = l.take (i + 1) := (take_one hxi).symm
          rw [e2]
          exact ih (i + 1) (by omega) (by rw [take_one hxi, List.all_append, ha]; simp [hok])
theorem makeF1 (l : List S32) (h : Bd l) : dist_Make.F l = some (makeP l) := by
  rw [dist_Make.F_eq]
  exact make_loop l h l.length 0 (by omega) (by simp)
theorem tDone_bd {D : List S32} (h : Bd D) : Bd (tDone D).1 := by
  unfold tDone
  split
  · exact ⟨by simp, by simp⟩
  · split
    · exact ⟨by simp, by simp⟩
    · refine ⟨by simpa using h.len, fun p hp => ?_⟩
      obtain ⟨q, hq, rfl⟩ := List.mem_map.1 hp
      exact h.out q hq
theorem makeP_bd {l : List S32} (h : Bd l) : Bd (makeP l).1 := by
  unfold makeP
  split
  · rename_i c
    have h0 : ∀ p ∈ l, 0 ≤ p.f1 := fun p hp => (all_ok c p hp).1
    refine tDone_bd ⟨?_, fun q hq => ?_⟩
    · have := tMerge_len l
      have := h.len
      omega
    · obtain ⟨p, hp, e, _⟩ := (outs_iff (tidy_canon h0) h0 q.f0).2 ⟨q, hq, rfl⟩
      rw [← e]
      exact h.out p hp
  · exact ⟨by simp, by simp⟩
theorem s32_eq {p q : S32} : p = q ↔ p.f1 = q.f1 ∧ p.f0 = q.f0 := by
  cases p; cases q
  simp only [S32.mk.injEq]
  exact And.comm
theorem same_loop (a b : List S32) (ha : Bd a) (hb : Bd b) (hl : a.length = b.length) : ∀ (n i : Nat), i + n = a.length →
    api_Part.L0 b a (a.length : Int) (i : Int) = some (decide (a.drop i = b.drop i)) := by
  have hla := ha.len
  intro n
  induction n with
  | zero =>
    intro i hi
    rw [api_Part.L0_eq, if_neg (by omega), List.drop_of_length_le (show a.length ≤ i by omega), List.drop_of_length_le (show b.length ≤ i by omega)]
    rfl
  | succ n ih =>
    intro i hi
    have h1 : i < a.length := by omega
    have h2 : i < b.length := by omega
    rw [api_Part.L0_eq, if_pos (by omega), if_pos (by omega), if_pos (by omega), if_pos (by omega), rd32At h1, rd32At h2, List.drop_eq_getElem_cons h1, List.drop_eq_getElem_cons h2, dist_same_1.F_eq]
    by_cases c1 : a[i].f1 = b[i].f1
    · rw [if_pos c1, eqF _ _ (ha.out _ (mem_at h1)), Option.bind_some, Option.bind_some]
      by_cases c2 : a[i].f0 = b[i].f0
      · rw [if_pos (decide_eq_true c2), w1 (by omega), ih (i + 1) (by omega), show a[i] = b[i] from s32_eq.2 ⟨c1, c2⟩]
        congr 1
        rw [decide_eq_decide]
        exact ⟨fun h => by rw [h], fun h => by injection h⟩
      · rw [if_neg (by simpa using c2)]
        congr 1
        symm
        rw [decide_eq_false_iff_not]
        intro h
        injection h with h _
        exact c2 (by rw [h])
    · rw [if_neg c1, Option.bind_some, if_neg (by decide)]
      congr 1
      symm
      rw [decide_eq_false_iff_not]
      intro h
      injection h with h _
      exact c1 (by rw [h])
theorem sameF (a b : List S32) (ha : Bd a) (hb : Bd b) : dist_same.F a b = some (decide (a = b)) := by
  rw [dist_same.F_eq, api_Part.F_eq]
  by_cases h : a.length = b.length
  · rw [if_pos (by omega)]
    rw [show (0 : Int) = ((0 : Nat) : Int) from rfl, same_loop a b ha hb h a.length 0 (by omega)]
    rfl
  · rw [if_neg (by omega), Option.bind_some]
    congr 1
    symm
    rw [decide_eq_false_iff_not]
    intro e
    exact h (by rw [e])
def wrongP (d : List S32) : Int := if (makeP d).2 = 0 then (if d = (makeP d).1 then 0 else 2) else (makeP d).2
theorem wrongF (d : List S32) (h : Bd d) : dist_Wrong.F d = some (wrongP d) := by
  rw [dist_Wrong.F_eq, makeF1 d h, Option.bind_some]
  unfold wrongP
  by_cases c : (makeP d).2 = 0
  · rw [if_pos c, if_pos c, sameF _ _ h (makeP_bd h), Option.bind_some]
    by_cases c2 : d = (makeP d).1
    · rw [if_pos (decide_eq_true c2), if_pos c2, c]
    · rw [if_neg (by simpa using c2), if_neg c2]
  · rw [if_neg c, if_neg c]
structure Right (d : List S32) : Prop where
  ok : d.all okP = true
  st : Strict d
  pos : 0 < totOf d
  few : totOf d ≤ 1073741824
  much : d.length ≤ 4096
theorem div_sum (g : Int) (hg : 0 < g) : ∀ (D : List S32), totOf (D.map (fun p => (⟨p.f0, p.f1 / g⟩ : S32))) ≤ totOf D / g
  | [] => by rw [List.map_nil, totOf_nil, Int.zero_ediv]; exact Int.le_refl 0
  | p :: D => by
    have ih := div_sum g hg D
    rw [List.map_cons, totOf_cons, totOf_cons]
    have h1 := Int.ediv_mul_le p.f1 (show g ≠ 0 by omega)
    have h2 := Int.ediv_mul_le (totOf D) (show g ≠ 0 by omega)
    have h3 : p.f1 / g + totOf D / g ≤ (p.f1 + totOf D) / g := by
      rw [Int.le_ediv_iff_mul_le hg, Int.add_mul]
      omega
    show p.f1 / g + _ ≤ _
    omega
theorem right_of {d : List S32} (h : wrongP d = 0) : Right d := by
  unfold wrongP at h
  by_cases c : (makeP d).2 = 0
  · rw [if_pos c] at h
    by_cases c2 : d = (makeP d).1
    · unfold makeP at c c2
      by_cases ho : d.all okP = true
      · rw [if_pos ho] at c c2
        have h0 : ∀ p ∈ d, 0 ≤ p.f1 := fun p hp => (all_ok ho p hp).1
        have hc := tidy_canon h0
        have htot := tMerge_tot d
        unfold tDone at c c2
        by_cases e1 : tMerge (sortP d) = []
        · rw [if_pos e1] at c; cases c
        · rw [if_neg e1] at c c2
          have hg := gOf_pos hc.pos e1
          by_cases e2 : totOf (tMerge (sortP d)) / (gOf (tMerge (sortP d)) : Int) > 1073741824 ∨ (tMerge (sortP d)).length > 4096
          · rw [if_pos e2] at c; cases c
          · rw [if_neg e2] at c2
            dsimp only at c2
            have hs := div_sum (gOf (tMerge (sortP d)) : Int) (by omega) (tMerge (sortP d))
            have htot2 : 0 < totOf (tMerge (sortP d)) := by
              cases hD : tMerge (sortP d) with
              | nil => exact absurd hD e1
              | cons q D =>
                have hp := hc.pos q (by rw [hD]; simp)
                have h2 := one_le (l := tMerge (sortP d)) (fun p hp => Int.le_of_lt (hc.pos p hp)) (p := q) (by rw [hD]; simp)
                rw [hD] at h2
                omega
            refine ⟨ho, ?_, by omega, ?_, ?_⟩
            · rw [c2]
              unfold Strict
              rw [List.pairwise_map]
              exact hc.st
            · rw [← c2] at hs
              omega
            · have := congrArg List.length c2
              rw [List.length_map] at this
              omega
      · rw [if_neg ho] at c; cases c
    · rw [if_neg c2] at h; cases h
  · rw [if_neg c] at h; exact absurd h c
end Go.Proofs.Ytkemhfhmlcljjaa.DistPure
end
section
namespace Go.Proofs.Ytkemhfhmlcljjaa.DistPure
set_option linter.unusedVariables false
set_option linter.unusedSimpArgs false
open Go.RowKit Go.Proofs.Ytkemhfhmlcljjaa.PP Go.Proofs.YtkemhfhmlcljjaaW.PrintWords Go.Proofs.YtkemhfhmlcljjaaW.PrintLast Go.Proofs.YtkemhfhmlcljjaaW.PrintMore Go.Proofs.YtkemhfhmlcljjaaW.EvKit
theorem gOf_dvd_go : ∀ (d : List S32) (g : Nat), d.foldl (fun g p => Nat.gcd p.f1.toNat g) g ∣ g ∧ ∀ p ∈ d, d.foldl (fun g p => Nat.gcd p.f1.toNat g) g ∣ p.f1.toNat
  | [], g => ⟨Nat.dvd_refl _, fun p hp => by cases hp⟩
  | q :: d, g => by
    rw [List.foldl_cons]
    obtain ⟨h1, h2⟩ := gOf_dvd_go d (Nat.gcd q.f1.toNat g)
    refine ⟨Nat.dvd_trans h1 (Nat.gcd_dvd_right _ _), fun p hp => ?_⟩
    rcases List.mem_cons.1 hp with e | e
    · rw [e]; exact Nat.dvd_trans h1 (Nat.gcd_dvd_left _ _)
    · exact h2 p e
theorem gOf_dvd {d : List S32} {p : S32} (h : p ∈ d) : gOf d ∣ p.f1.toNat := (gOf_dvd_go d 0).2 p h
theorem gOf_max_go : ∀ (d : List S32) (g n : Nat), n ∣ g → (∀ p ∈ d, n ∣ p.f1.toNat) → n ∣ d.foldl (fun g p => Nat.gcd p.f1.toNat g) g
  | [], g, n, h, _ => h
  | q :: d, g, n, h, h0 => gOf_max_go d _ n (Nat.dvd_gcd (h0 q (by simp)) h) (fun p hp => h0 p (by simp [hp]))
theorem gOf_max {d : List S32} {n : Nat} (h : ∀ p ∈ d, n ∣ p.f1.toNat) : n ∣ gOf d := gOf_max_go d 0 n (Nat.dvd_zero n) h
theorem div_pos' {p : Int} {g : Nat} (hp : 0 < p) (hg : 0 < g) (hd : g ∣ p.toNat) : ∃ m : Nat, 0 < m ∧ p / (g : Int) = (m : Int) ∧ p.toNat = g * m := by
  obtain ⟨m, hm⟩ := hd
  have e : p = ((g * m : Nat) : Int) := by rw [← hm]; omega
  refine ⟨m, ?_, ?_, hm⟩
  · rcases Nat.eq_zero_or_pos m with h | h
    · rw [h, Nat.mul_zero] at hm; omega
    · exact h
  · rw [e, Int.natCast_mul, Int.mul_ediv_cancel_left _ (by omega)]
theorem canon_self {l : List S32} (hs : Strict l) (hp : ∀ p ∈ l, 0 < p.f1) : tMerge (sortP l) = l :=
  (tidy_canon (fun p h => Int.le_of_lt (hp p h))).uniq (⟨hs, hp, fun _ => rfl⟩ : Canon l l) (fun _ => rfl)
def divG (l : List S32) : List S32 := l.map (fun p => (⟨p.f0, p.f1 / (gOf l : Int)⟩ : S32))
structure Ord (l : List S32) : Prop where
  st : Strict l
  pos : ∀ p ∈ l, 0 < p.f1
  ok : l.all okP = true
  ne : l ≠ []
  few : totOf l ≤ 1073741824
  much : l.length ≤ 4096
theorem Ord.make {l : List S32} (h : Ord l) : makeP l = (divG l, 0) := by
  have hg := gOf_pos h.pos h.ne
  have h0 : 0 ≤ totOf l := by
    cases hl : l with
    | nil => exact absurd hl h.ne
    | cons q D =>
      have h1 := one_le (l := l) (fun p hp => Int.le_of_lt (h.pos p hp)) (p := q) (by rw [hl]; simp)
      have h2 := h.pos q (by rw [hl]; simp)
      rw [← hl]; omega
  have h1 : totOf l / (gOf l : Int) ≤ totOf l := Int.ediv_le_self _ h0
  have h2 := h.few
  have h3 := h.much
  unfold makeP
  rw [if_pos h.ok, canon_self h.st h.pos]
  unfold tDone
  rw [if_neg h.ne, if_neg (by omega)]
  rfl
theorem Ord.mem {l : List S32} (h : Ord l) {q : S32} (hq : q ∈ divG l) : ∃ p ∈ l, ∃ m : Nat, 0 < m ∧ q = ⟨p.f0, (m : Int)⟩ ∧ p.f1 = ((gOf l * m : Nat) : Int) := by
  obtain ⟨p, hp, rfl⟩ := List.mem_map.1 hq
  obtain ⟨m, h1, h2, h3⟩ := div_pos' (h.pos p hp) (gOf_pos h.pos h.ne) (gOf_dvd hp)
  have h4 := h.pos p hp
  exact ⟨p, hp, m, h1, by rw [h2], by omega⟩
theorem wOf_map (g : Nat) (hg : 0 < g) (o : List Int) : ∀ (L : List S32), (∀ p ∈ L, 0 < p.f1 ∧ g ∣ p.f1.toNat) → wOf (L.map (fun p => (⟨p.f0, p.f1 / (g : Int)⟩ : S32))) o * (g : Int) = wOf L o
  | [], _ => by simp [wOf, isum]
  | p :: L, h => by
    have ih := wOf_map g hg o L (fun q hq => h q (by simp [hq]))
    obtain ⟨h1, h2⟩ := h p (by simp)
    obtain ⟨m, _, e, e'⟩ := div_pos' h1 hg h2
    have e2 : p.f1 / (g : Int) * (g : Int) = p.f1 := by
      rw [e, ← Int.natCast_mul, Nat.mul_comm]; omega
    rw [List.map_cons, wOf_cons, wOf_cons, Int.add_mul, ih]
    by_cases c : p.f0 = o
    · rw [if_pos c, if_pos c, e2]
    · rw [if_neg c, if_neg c, Int.zero_mul]
theorem tot_map (g : Nat) (hg : 0 < g) : ∀ (L : List S32), (∀ p ∈ L, 0 < p.f1 ∧ g ∣ p.f1.toNat) → totOf (L.map (fun p => (⟨p.f0, p.f1 / (g : Int)⟩ : S32))) * (g : Int) = totOf L
  | [], _ => by rw [List.map_nil, totOf_nil, Int.zero_mul]
  | p :: L, h => by
    have ih := tot_map g hg L (fun q hq => h q (by simp [hq]))
    obtain ⟨h1, h2⟩ := h p (by simp)
    obtain ⟨m, _, e, e'⟩ := div_pos' h1 hg h2
    have e2 : p.f1 / (g : Int) * (g : Int) = p.f1 := by
      rw [e, ← Int.natCast_mul, Nat.mul_comm]; omega
    rw [List.map_cons, totOf_cons, totOf_cons, Int.add_mul, ih]
    show p.f1 / (g : Int) * (g : Int) + _ = _
    rw [e2]
theorem Ord.all {l : List S32} (h : Ord l) : ∀ p ∈ l, 0 < p.f1 ∧ gOf l ∣ p.f1.toNat := fun p hp => ⟨h.pos p hp, gOf_dvd hp⟩
theorem Ord.w {l : List S32} (h : Ord l) (o : List Int) : wOf (divG l) o * (gOf l : Int) = wOf l o := wOf_map (gOf l) (gOf_pos h.pos h.ne) o l h.all
theorem Ord.t {l : List S32} (h : Ord l) : totOf (divG l) * (gOf l : Int) = totOf l := tot_map (gOf l) (gOf_pos h.pos h.ne) l h.all
theorem Ord.g1 {l : List S32} (h : Ord l) : gOf (divG l) = 1 := by
  have hg := gOf_pos h.pos h.ne
  have h1 : gOf l * gOf (divG l) ∣ gOf l := gOf_max (fun q hq => by
    obtain ⟨m, _, h2, h3⟩ := div_pos' (h.pos q hq) hg (gOf_dvd hq)
    have h4 := gOf_dvd (List.mem_map.2 ⟨q, hq, rfl⟩ : (⟨q.f0, q.f1 / (gOf l : Int)⟩ : S32) ∈ divG l)
    rw [h3]
    refine Nat.mul_dvd_mul_left _ ?_
    have h5 : (q.f1 / (gOf l : Int)).toNat = m := by rw [h2]; omega
    rw [← h5]
    exact h4)
  have h2 := Nat.le_of_dvd hg h1
  have h3 : 0 < gOf (divG l) := by
    refine gOf_pos (fun p hp => ?_) (by unfold divG; simpa using h.ne)
    obtain ⟨_, _, m, h1, rfl, _⟩ := h.mem hp
    show (0 : Int) < m
    omega
  generalize gOf (divG l) = x at *
  rcases Nat.lt_or_ge 1 x with c | c
  · have := Nat.mul_lt_mul_of_pos_left c hg
    omega
  · omega
theorem Ord.div {l : List S32} (h : Ord l) : Ord (divG l) := by
  have hg := gOf_pos h.pos h.ne
  refine ⟨?_, ?_, ?_, by unfold divG; simpa using h.ne, ?_, by unfold divG; rw [List.length_map]; exact h.much⟩
  · unfold Strict divG
    rw [List.pairwise_map]
    exact h.st
  · intro p hp
    obtain ⟨_, _, m, h1, rfl, _⟩ := h.mem hp
    show (0 : Int) < m
    omega
  · rw [List.all_eq_true]
    intro q hq
    obtain ⟨p, hp, m, h1, rfl, e⟩ := h.mem hq
    obtain ⟨k1, k2, k3⟩ := okP_iff.1 (List.all_eq_true.1 h.ok p hp)
    have : m ≤ gOf l * m := Nat.le_mul_of_pos_left m hg
    refine okP_iff.2 ⟨k1, ?_, ?_⟩
    · show (0 : Int) ≤ m
      omega
    · show (m : Int) ≤ 1073741824
      omega
  · have := div_sum (gOf l : Int) (by omega) l
    have h2 := h.few
    have h1 : totOf l / (gOf l : Int) ≤ totOf l := by
      refine Int.ediv_le_self _ ?_
      cases hl : l with
      | nil => exact absurd hl h.ne
      | cons q D =>
        have h1 := one_le (l := l) (fun p hp => Int.le_of_lt (h.pos p hp)) (p := q) (by rw [hl]; simp)
        have h2 := h.pos q (by rw [hl]; simp)
        rw [← hl]; omega
    unfold divG
    omega
theorem Ord.wrong {l : List S32} (h : Ord l) : wrongP (divG l) = 0 := by
  have e : divG (divG l) = divG l := by
    have h1 := h.g1
    have e2 : divG (divG l) = (divG l).map (fun p => (⟨p.f0, p.f1 / (gOf (divG l) : Int)⟩ : S32)) := rfl
    rw [e2, h1]
    have e3 : ∀ L : List S32, L.map (fun p => (⟨p.f0, p.f1 / ((1 : Nat) : Int)⟩ : S32)) = L := fun L => by
      induction L with
      | nil => rfl
      | cons p L ih =>
        rw [List.map_cons, ih]
        congr 1
        have : p.f1 / ((1 : Nat) : Int) = p.f1 := by rw [Int.natCast_one, Int.ediv_one]
        rw [this]
    exact e3 _
  unfold wrongP
  rw [h.div.make, e]
  simp
theorem Ord.bd {l : List S32} (h : Ord l) (hb : Bd l) : Bd (divG l) := by
  have := makeP_bd hb
  rw [h.make] at this
  exact this
end Go.Proofs.Ytkemhfhmlcljjaa.DistPure
end
section
namespace Go.Proofs.Ytkemhfhmlcljjaa.DistPure
set_option linter.unusedVariables false
set_option linter.unusedSimpArgs false
open Go.RowKit Go.Proofs.Ytkemhfhmlcljjaa.PP Go.Proofs.YtkemhfhmlcljjaaW.PrintWords Go.Proofs.YtkemhfhmlcljjaaW.PrintLast Go.Proofs.YtkemhfhmlcljjaaW.PrintMore Go.Proofs.YtkemhfhmlcljjaaW.EvKit
theorem right_form {d : List S32} (h : wrongP d = 0) : ∃ D : List S32, (∀ p ∈ D, 0 < p.f1) ∧ D ≠ [] ∧ d = D.map (fun p => (⟨p.f0, p.f1 / (gOf D : Int)⟩ : S32)) := by
  unfold wrongP at h
  by_cases c : (makeP d).2 = 0
  · rw [if_pos c] at h
    by_cases c2 : d = (makeP d).1
    · unfold makeP at c c2
      by_cases ho : d.all okP = true
      · rw [if_pos ho] at c c2
        have hc := tidy_canon (fun p hp => (all_ok ho p hp).1)
        unfold tDone at c c2
        by_cases e1 : tMerge (sortP d) = []
        · rw [if_pos e1] at c; cases c
        · rw [if_neg e1] at c c2
          by_cases e2 : totOf (tMerge (sortP d)) / (gOf (tMerge (sortP d)) : Int) > 1073741824 ∨ (tMerge (sortP d)).length > 4096
          · rw [if_pos e2] at c; cases c
          · rw [if_neg e2] at c2
            exact ⟨_, hc.pos, e1, c2⟩
      · rw [if_neg ho] at c; cases c
    · rw [if_neg c2] at h; cases h
  · rw [if_neg c] at h; exact absurd h c
theorem right_more {d : List S32} (h : wrongP d = 0) : (∀ p ∈ d, 0 < p.f1) ∧ gOf d = 1 := by
  obtain ⟨D, h0, hn, rfl⟩ := right_form h
  have hg := gOf_pos h0 hn
  have key : ∀ p ∈ D, ∃ m : Nat, 0 < m ∧ p.f1 / (gOf D : Int) = (m : Int) ∧ p.f1.toNat = gOf D * m := fun p hp => div_pos' (h0 p hp) hg (gOf_dvd hp)
  constructor
  · intro p hp
    obtain ⟨q, hq, rfl⟩ := List.mem_map.1 hp
    obtain ⟨m, h1, h2, _⟩ := key q hq
    show 0 < q.f1 / (gOf D : Int)
    omega
  · have h1 : gOf D * gOf (D.map (fun p => (⟨p.f0, p.f1 / (gOf D : Int)⟩ : S32))) ∣ gOf D := gOf_max (fun q hq => by
      obtain ⟨m, _, h2, h3⟩ := key q hq
      have h4 := gOf_dvd (List.mem_map.2 ⟨q, hq, rfl⟩ : (⟨q.f0, q.f1 / (gOf D : Int)⟩ : S32) ∈ D.map (fun p => (⟨p.f0, p.f1 / (gOf D : Int)⟩ : S32)))
      rw [h3]
      refine Nat.mul_dvd_mul_left _ ?_
      have h5 : (q.f1 / (gOf D : Int)).toNat = m := by rw [h2]; omega
      rw [← h5]
      exact h4)
    have h2 := Nat.le_of_dvd hg h1
    have h3 : 0 < gOf (D.map (fun p => (⟨p.f0, p.f1 / (gOf D : Int)⟩ : S32))) := by
      refine gOf_pos (fun p hp => ?_) (by simpa using hn)
      obtain ⟨q, hq, rfl⟩ := List.mem_map.1 hp
      obtain ⟨m, h1, h2, _⟩ := key q hq
      show 0 < q.f1 / (gOf D : Int)
      omega
    generalize gOf (D.map (fun p => (⟨p.f0, p.f1 / (gOf D : Int)⟩ : S32))) = x at *
    rcases Nat.lt_or_ge 1 x with c | c
    · have := Nat.mul_lt_mul_of_pos_left c hg
      omega
    · omega
def outsL (a b : List S32) : List (List Int) := a.map (·.f0) ++ (b.filter (fun p => decide (wOf a p.f0 = 0))).map (·.f0)
def pw (a b : List S32) (o : List Int) : Int × Int := (wOf a o, wOf b o)
theorem wOf_skip {p : S32} {a : List S32} {o : List Int} (h : p.f0 ≠ o) : wOf (p :: a) o = wOf a o := by rw [wOf_cons, if_neg h, Int.zero_add]
theorem wOf_hit {p : S32} {a : List S32} (h : Strict (p :: a)) : wOf (p :: a) p.f0 = p.f1 := by rw [wOf_cons, if_pos rfl, strict_head h, Int.add_zero]
theorem lt_ne {a b : List Int} (h : cmpL a b < 0) : a ≠ b := fun e => by rw [e, cmpL_self] at h; exact absurd h (Int.lt_irrefl 0)
theorem below_none {o : List Int} {b : List S32} (h : ∀ q ∈ b, cmpL o q.f0 < 0) : wOf b o = 0 := wOf_none _ _ (fun q hq e => lt_ne (h q hq) e.symm)
theorem outs_mem {a b : List S32} {o : List Int} (h : o ∈ outsL a b) : (∃ p ∈ a, p.f0 = o) ∨ (∃ q ∈ b, q.f0 = o) := by
  rcases List.mem_append.1 h with h | h
  · exact .inl (List.mem_map.1 h)
  · obtain ⟨q, hq, e⟩ := List.mem_map.1 h
    exact .inr ⟨q, (List.mem_filter.1 hq).1, e⟩
theorem filter_skip {p : S32} {a : List S32} : ∀ {b : List S32}, (∀ q ∈ b, p.f0 ≠ q.f0) → b.filter (fun q => decide (wOf (p :: a) q.f0 = 0)) = b.filter (fun q => decide (wOf a q.f0 = 0)) := fun h =>
  List.filter_congr (fun q hq => by rw [wOf_skip (h q hq)])
theorem side_l {p : S32} {a b : List S32} (hs : Strict (p :: a)) (hb : ∀ q ∈ b, cmpL p.f0 q.f0 < 0) : (outsL (p :: a) b).map (pw (p :: a) b) = (p.f1, 0) :: (outsL a b).map (pw a b) := by
  have hne : ∀ q ∈ b, p.f0 ≠ q.f0 := fun q hq => lt_ne (hb q hq)
  unfold outsL
  rw [filter_skip hne, List.map_cons, List.cons_append, List.map_cons]
  congr 1
  · unfold pw; rw [wOf_hit hs, below_none hb]
  · refine List.map_congr_left (fun o ho => ?_)
    have ho' : p.f0 ≠ o := by
      rcases outs_mem ho with ⟨q, hq, e⟩ | ⟨q, hq, e⟩
      · rw [← e]; exact lt_ne ((List.pairwise_cons.1 hs).1 q hq)
      · rw [← e]; exact hne q hq
    unfold pw; rw [wOf_skip ho']
theorem side_r {q : S32} {a b : List S32} (hs : Strict (q :: b)) (ha : ∀ p ∈ a, cmpL q.f0 p.f0 < 0) : ((outsL a (q :: b)).map (pw a (q :: b))).Perm ((0, q.f1) :: (outsL a b).map (pw a b)) := by
  have e0 : wOf a q.f0 = 0 := below_none ha
  have e1 : outsL a (q :: b) = a.map (·.f0) ++ q.f0 :: (b.filter (fun p => decide (wOf a p.f0 = 0))).map (·.f0) := by
    unfold outsL; rw [List.filter_cons_of_pos (by simpa using e0), List.map_cons]
  rw [e1]
  refine ((List.perm_middle (l₁ := a.map (·.f0))).map _).trans ?_
  rw [List.map_cons]
  have e2 : pw a (q :: b) q.f0 = (0, q.f1) := by unfold pw; rw [e0, wOf_hit hs]
  rw [e2]
  refine List.Perm.cons _ (List.Perm.of_eq ?_)
  refine List.map_congr_left (fun o ho => ?_)
  have ho' : q.f0 ≠ o := by
    rcases outs_mem (a := a) (b := b) ho with ⟨p, hp, e⟩ | ⟨p, hp, e⟩
    · rw [← e]; exact lt_ne (ha p hp)
    · rw [← e]; exact lt_ne ((List.pairwise_cons.1 hs).1 p hp)
  unfold pw; rw [wOf_skip ho']
theorem side_e {p q : S32} {a b : List S32} (hp : 0 < p.f1) (hsa : Strict (p :: a)) (hsb : Strict (q :: b)) (e : p.f0 = q.f0) : (outsL (p :: a) (q :: b)).map (pw (p :: a) (q :: b)) = (p.f1, q.f1) :: (outsL a b).map (pw a b) := by
  have hne : ∀ r ∈ b, p.f0 ≠ r.f0 := fun r hr => by rw [e]; exact lt_ne ((List.pairwise_cons.1 hsb).1 r hr)
  have h1 : wOf (p :: a) q.f0 = p.f1 := by rw [← e]; exact wOf_hit hsa
  unfold outsL
  rw [List.filter_cons_of_neg (by rw [h1]; simp; omega), filter_skip hne, List.map_cons, List.cons_append, List.map_cons]
  congr 1
  · unfold pw; rw [wOf_hit hsa, e, wOf_hit hsb]
  · refine List.map_congr_left (fun o ho => ?_)
    have ho' : p.f0 ≠ o := by
      rcases outs_mem (a := a) (b := b) ho with ⟨r, hr, e2⟩ | ⟨r, hr, e2⟩
      · rw [← e2]; exact lt_ne ((List.pairwise_cons.1 hsa).1 r hr)
      · rw [← e2]; exact hne r hr
    unfold pw; rw [wOf_skip ho', wOf_skip (by rw [← e]; exact ho')]
theorem strict_tail {p : S32} {a : List S32} (h : Strict (p :: a)) : Strict a := (List.pairwise_cons.1 h).2
theorem pairs_perm : ∀ (n : Nat) (a b : List S32), a.length + b.length ≤ n → Strict a → Strict b → (∀ p ∈ a, 0 < p.f1) → (pairsL a b).Perm ((outsL a b).map (pw a b))
  | n, [], [], _, _, _, _ => by rw [pairs_nil]; exact List.Perm.refl _
  | 0, _ :: _, _, h, _, _, _ => by simp at h
  | 0, [], _ :: _, h, _, _, _ => by simp at h
  | n + 1, [], q :: b, h, ha, hb, h0 => by
    rw [pairs_r]
    exact (List.Perm.cons _ (pairs_perm n [] b (by simp at h ⊢; omega) ha (strict_tail hb) h0)).trans (side_r hb (fun p hp => by cases hp)).symm
  | n + 1, p :: a, [], h, ha, hb, h0 => by
    rw [pairs_l, side_l ha (fun q hq => by cases hq)]
    exact List.Perm.cons _ (pairs_perm n a [] (by simp at h ⊢; omega) (strict_tail ha) hb (fun x hx => h0 x (by simp [hx])))
  | n + 1, p :: a, q :: b, h, ha, hb, h0 => by
    by_cases h1 : cmpL p.f0 q.f0 < 0
    · rw [pairs_lt _ _ h1, side_l ha (fun r hr => by
        rcases List.mem_cons.1 hr with c | c
        · rw [c]; exact h1
        · exact cmpL_trans _ _ _ h1 ((List.pairwise_cons.1 hb).1 r c))]
      exact List.Perm.cons _ (pairs_perm n a (q :: b) (by simp at h ⊢; omega) (strict_tail ha) hb (fun x hx => h0 x (by simp [hx])))
    · by_cases h2 : cmpL p.f0 q.f0 > 0
      · rw [pairs_gt _ _ h2]
        have h3 : cmpL q.f0 p.f0 < 0 := by have := cmpL_swap p.f0 q.f0; omega
        exact (List.Perm.cons _ (pairs_perm n (p :: a) b (by simp at h ⊢; omega) ha (strict_tail hb) h0)).trans (side_r hb (fun r hr => by
          rcases List.mem_cons.1 hr with c | c
          · rw [c]; exact h3
          · exact cmpL_trans _ _ _ h3 ((List.pairwise_cons.1 ha).1 r c))).symm
      · rw [pairs_eq _ _ (by omega), side_e (h0 p (by simp)) ha hb (cmpL_eq _ _ (by omega))]
        exact List.Perm.cons _ (pairs_perm n a b (by simp at h ⊢; omega) (strict_tail ha) (strict_tail hb) (fun x hx => h0 x (by simp [hx])))
theorem pairs_perm' {a b : List S32} (ha : Strict a) (hb : Strict b) (h0 : ∀ p ∈ a, 0 < p.f1) : (pairsL a b).Perm ((outsL a b).map (pw a b)) := pairs_perm _ a b (Nat.le_refl _) ha hb h0
end Go.Proofs.Ytkemhfhmlcljjaa.DistPure
end
section
namespace Go.Proofs.Ytkemhfhmlcljjaa.DistPure
set_option linter.unusedVariables false
set_option linter.unusedSimpArgs false
open Go.RowKit Go.Proofs.Ytkemhfhmlcljjaa.PP Go.Proofs.YtkemhfhmlcljjaaW.PrintWords Go.Proofs.YtkemhfhmlcljjaaW.PrintLast Go.Proofs.YtkemhfhmlcljjaaW.PrintMore Go.Proofs.YtkemhfhmlcljjaaW.EvKit
def le2 (f g : Nat × Nat) : Prop := f.1 * g.2 ≤ g.1 * f.2
def pos2 (f : Nat × Nat) : Prop := 1 ≤ f.1 ∧ 1 ≤ f.2
theorem le2_refl (f : Nat × Nat) : le2 f f := Nat.le_refl _
theorem le2_trans {f g h : Nat × Nat} (hg : 1 ≤ g.2) (h1 : le2 f g) (h2 : le2 g h) : le2 f h := by
  unfold le2 at *
  have a : f.1 * g.2 * h.2 ≤ g.1 * f.2 * h.2 := Nat.mul_le_mul_right _ h1
  have b : g.1 * h.2 * f.2 ≤ h.1 * g.2 * f.2 := Nat.mul_le_mul_right _ h2
  have c : f.1 * h.2 * g.2 ≤ h.1 * f.2 * g.2 := by
    calc f.1 * h.2 * g.2 = f.1 * g.2 * h.2 := by rw [Nat.mul_assoc, Nat.mul_comm h.2, ← Nat.mul_assoc]
      _ ≤ g.1 * f.2 * h.2 := a
      _ = g.1 * h.2 * f.2 := by rw [Nat.mul_assoc, Nat.mul_comm f.2, ← Nat.mul_assoc]
      _ ≤ h.1 * g.2 * f.2 := b
      _ = h.1 * f.2 * g.2 := by rw [Nat.mul_assoc, Nat.mul_comm g.2, ← Nat.mul_assoc]
  exact Nat.le_of_mul_le_mul_right c hg
structure Mx (s : Nat × Nat) (F : List (Nat × Nat)) : Prop where
  pos : pos2 s
  one : le2 (1, 1) s
  ub : ∀ f ∈ F, le2 f s
  got : le2 s (1, 1) ∨ ∃ f ∈ F, le2 s f
theorem Mx.start : Mx (1, 1) [] := ⟨⟨Nat.le_refl _, Nat.le_refl _⟩, le2_refl _, fun f hf => (by cases hf), .inl (le2_refl _)⟩
theorem Mx.keep {s f : Nat × Nat} {F : List (Nat × Nat)} (h : Mx s F) (hf : le2 f s) : Mx s (F ++ [f]) :=
  ⟨h.pos, h.one, fun g hg => by
    rcases List.mem_append.1 hg with hg | hg
    · exact h.ub g hg
    · rw [List.mem_singleton.1 hg]; exact hf, by
    rcases h.got with h | ⟨g, hg, h⟩
    · exact .inl h
    · exact .inr ⟨g, by simp [hg], h⟩⟩
theorem Mx.take {s f t : Nat × Nat} {F : List (Nat × Nat)} (h : Mx s F) (ht : pos2 t) (hf : le2 s f) (h1 : le2 f t) (h2 : le2 t f) (hfp : pos2 f) : Mx t (F ++ [f]) :=
  ⟨ht, le2_trans hfp.2 (le2_trans h.pos.2 h.one hf) h1, fun g hg => by
    rcases List.mem_append.1 hg with hg | hg
    · exact le2_trans hfp.2 (le2_trans h.pos.2 (h.ub g hg) hf) h1
    · rw [List.mem_singleton.1 hg]; exact h1, .inr ⟨f, by simp, h2⟩⟩
theorem Mx.le {s t : Nat × Nat} {F G : List (Nat × Nat)} (h : Mx s F) (k : Mx t G) (hF : ∀ f ∈ F, pos2 f ∧ ∃ g ∈ G, pos2 g ∧ le2 f g) : le2 s t := by
  rcases h.got with c | ⟨f, hf, c⟩
  · exact le2_trans (Nat.le_refl 1) c k.one
  · obtain ⟨h1, g, hg, h2, h3⟩ := hF f hf
    exact le2_trans h1.2 c (le2_trans h2.2 h3 (k.ub g hg))
def hl (ta tb : Nat) (x : Int × Int) : Nat × Nat := (fHi ta tb x, fLo ta tb x)
def uv (ta tb : Nat) (x : Int × Int) : Nat × Nat := (x.1.toNat * tb, x.2.toNat * ta)
theorem div_same {a g : Nat} (h : g ∣ a) : a / g * g = a := Nat.div_mul_cancel h
theorem UV_eq {ta tb : Nat} {x : Int × Int} (hg : 1 ≤ fG ta tb x) : le2 (hl ta tb x) (fU ta tb x, fV ta tb x) ∧ le2 (fU ta tb x, fV ta tb x) (hl ta tb x) ∧ Nat.gcd (fU ta tb x) (fV ta tb x) = 1 := by
  have d1 : fG ta tb x ∣ fHi ta tb x := Nat.gcd_dvd_right _ _
  have d2 : fG ta tb x ∣ fLo ta tb x := Nat.gcd_dvd_left _ _
  have e1 : fU ta tb x * fG ta tb x = fHi ta tb x := div_same d1
  have e2 : fV ta tb x * fG ta tb x = fLo ta tb x := div_same d2
  have e : fHi ta tb x * fV ta tb x = fU ta tb x * fLo ta tb x := by rw [← e1, ← e2, Nat.mul_assoc, Nat.mul_comm (fG ta tb x)]
  refine ⟨Nat.le_of_eq e, Nat.le_of_eq e.symm, ?_⟩
  unfold fU fV
  rw [Nat.gcd_comm]
  exact Nat.coprime_div_gcd_div_gcd (m := fLo ta tb x) (n := fHi ta tb x) hg
theorem fStep_mx {ta tb : Nat} (ha : 1 ≤ ta) (ha' : ta ≤ 1073741824) (hb : 1 ≤ tb) (hb' : tb ≤ 1073741824) {x : Int × Int} (h : pOk x) (h0 : pNo x) {s : Nat × Nat} {F : List (Nat × Nat)} (hm : Mx s F) (hc : Nat.gcd s.1 s.2 = 1) :
    Mx (fStep ta tb s x) (F ++ [hl ta tb x]) ∧ Nat.gcd (fStep ta tb s x).1 (fStep ta tb s x).2 = 1 := by
  obtain ⟨b1, b2, b3, b4, b5, c1, c2, c3, c4⟩ := f_bd ha ha' hb hb' h h0
  obtain ⟨e1, e2, e3⟩ := UV_eq b4
  have hp : pos2 (hl ta tb x) := ⟨Nat.le_trans b1 b2, b1⟩
  have hq : pos2 (fU ta tb x, fV ta tb x) := ⟨c1, c3⟩
  unfold fStep
  by_cases c : fB ta tb s x = true
  · rw [if_pos c]
    have c' : s.1 * fV ta tb x < fU ta tb x * s.2 := of_decide_eq_true c
    exact ⟨hm.take hq (le2_trans (g := (fU ta tb x, fV ta tb x)) hq.2 (Nat.le_of_lt c') e2) e1 e2 hp, e3⟩
  · rw [if_neg c]
    have c' : ¬ s.1 * fV ta tb x < fU ta tb x * s.2 := fun h => c (decide_eq_true h)
    exact ⟨hm.keep (le2_trans (g := (fU ta tb x, fV ta tb x)) hq.2 e1 (Nat.le_of_not_lt c')), hc⟩
theorem fold_mx {ta tb : Nat} (ha : 1 ≤ ta) (ha' : ta ≤ 1073741824) (hb : 1 ≤ tb) (hb' : tb ≤ 1073741824) : ∀ (L : List (Int × Int)) (s : Nat × Nat) (F : List (Nat × Nat)), (∀ x ∈ L, pOk x ∧ pNo x) → Mx s F → Nat.gcd s.1 s.2 = 1 →
    Mx (L.foldl (fStep ta tb) s) (F ++ L.map (hl ta tb)) ∧ Nat.gcd (L.foldl (fStep ta tb) s).1 (L.foldl (fStep ta tb) s).2 = 1
  | [], s, F, _, h, hc => by rw [List.map_nil, List.append_nil]; exact ⟨h, hc⟩
  | x :: L, s, F, h0, h, hc => by
    obtain ⟨h1, h2⟩ := fStep_mx ha ha' hb hb' (h0 x (by simp)).1 (h0 x (by simp)).2 h hc
    have := fold_mx ha ha' hb hb' L _ _ (fun y hy => h0 y (by simp [hy])) h1 h2
    rw [List.foldl_cons, List.map_cons]
    rw [List.append_assoc] at this
    exact this
theorem fFold_mx {ta tb : Nat} (ha : 1 ≤ ta) (ha' : ta ≤ 1073741824) (hb : 1 ≤ tb) (hb' : tb ≤ 1073741824) {L : List (Int × Int)} (h0 : ∀ x ∈ L, pOk x ∧ pNo x) : Mx (fFold ta tb L) (L.map (hl ta tb)) ∧ Nat.gcd (fFold ta tb L).1 (fFold ta tb L).2 = 1 := by
  have := fold_mx ha ha' hb hb' L (1, 1) [] h0 Mx.start rfl
  rw [List.nil_append] at this
  exact this
def two (ta tb : Nat) (x : Int × Int) : List (Nat × Nat) := [uv ta tb x, (uv ta tb x).swap]
theorem uv_bd {ta tb : Nat} (ha : 1 ≤ ta) (ha' : ta ≤ 1073741824) (hb : 1 ≤ tb) (hb' : tb ≤ 1073741824) {x : Int × Int} (h : pOk x) (h0 : pNo x) : sOk (uv ta tb x) := by
  obtain ⟨h1, h2, h3, h4⟩ := h
  obtain ⟨n1, n2⟩ := h0
  have m1 := p_mul (a := x.1.toNat) (t := tb) (by omega) (by omega) hb hb'
  have m2 := p_mul (a := x.2.toNat) (t := ta) (by omega) (by omega) ha ha'
  exact ⟨m1.1, m1.2, m2.1, m2.2⟩
theorem hl_uv (ta tb : Nat) (x : Int × Int) : hl ta tb x = uv ta tb x ∨ hl ta tb x = (uv ta tb x).swap := by
  unfold hl uv fHi fLo
  rcases Nat.le_total (x.1.toNat * tb) (x.2.toNat * ta) with c | c
  · right; rw [Nat.max_eq_right c, Nat.min_eq_left c]; rfl
  · left; rw [Nat.max_eq_left c, Nat.min_eq_right c]
theorem uv_hl (ta tb : Nat) (x : Int × Int) : le2 (uv ta tb x) (hl ta tb x) ∧ le2 (uv ta tb x).swap (hl ta tb x) := by
  unfold le2 hl uv fHi fLo Prod.swap
  dsimp only
  generalize x.1.toNat * tb = u
  generalize x.2.toNat * ta = v
  rcases Nat.le_total u v with c | c
  · rw [Nat.max_eq_right c, Nat.min_eq_left c]
    exact ⟨Nat.mul_le_mul c c, Nat.le_refl _⟩
  · rw [Nat.max_eq_left c, Nat.min_eq_right c]
    exact ⟨Nat.le_refl _, Nat.mul_le_mul c c⟩
end Go.Proofs.Ytkemhfhmlcljjaa.DistPure
end
section
namespace Go.Proofs.Ytkemhfhmlcljjaa.DistPure
open Go.RowKit Go.Proofs.Ytkemhfhmlcljjaa.PP Go.Proofs.YtkemhfhmlcljjaaW.PrintWords Go.Proofs.YtkemhfhmlcljjaaW.PrintLast Go.Proofs.YtkemhfhmlcljjaaW.PrintMore Go.Proofs.YtkemhfhmlcljjaaW.EvKit
set_option linter.unusedVariables false
set_option linter.unusedSimpArgs false
end Go.Proofs.Ytkemhfhmlcljjaa.DistPure
end
section
namespace Go.Proofs.Ytkemhfhmlcljjaa.PP
open Go.RowKit Go.Proofs.YtkemhfhmlcljjaaW.PrintWords Go.Proofs.YtkemhfhmlcljjaaW.PrintLast Go.Proofs.YtkemhfhmlcljjaaW.PrintMore
open Go.Proofs.YtkemhfhmlcljjaaW.EvKit
set_option linter.unusedVariables false
noncomputable def dist_more.L0 (x0 : Int) (x1 : Int) (x2 : Int) (x3 : Int) : Option (Bool) := lim (fun k => dist_more.l0 k x0 x1 x2 x3)
theorem dist_more.L0_is (x0 : Int) (x1 : Int) (x2 : Int) (x3 : Int) : LimIs (fun k => dist_more.l0 k x0 x1 x2 x3) (dist_more.L0 x0 x1 x2 x3) := ⟨fun k => (dist_more.mono_l k) x0 x1 x2 x3, rfl⟩
noncomputable def dist_more.F (a0 : Int) (a1 : Int) (a2 : Int) (a3 : Int) : Option (Bool) := lim (fun k => dist_more.f k a0 a1 a2 a3)
theorem dist_more.F_is (a0 : Int) (a1 : Int) (a2 : Int) (a3 : Int) : LimIs (fun k => dist_more.f k a0 a1 a2 a3) (dist_more.F a0 a1 a2 a3) := ⟨fun k => dist_more.mono a0 a1 a2 a3 k, rfl⟩
set_option maxRecDepth 100000 in
theorem dist_more.L0_eq (x0 : Int) (x1 : Int) (x2 : Int) (x3 : Int) : dist_more.L0 x0 x1 x2 x3 = if x1 = 0 then (none) else (if x3 = 0 then (none) else (if (wrap64 (Int.tdiv x0 x1)) = (wrap64 (Int.tdiv x2 x3)) then (if (Int.tmod x0 x1) = 0 then (some (decide ((Int.tmod x0 x1) > 0))) else (if (Int.tmod x2 x3) = 0 then (some (decide ((Int.tmod x0 x1) > 0))) else (dist_more.L0 x3 (Int.tmod x2 x3) x1 (Int.tmod x0 x1)))) else (some (decide ((wrap64 (Int.tdiv x0 x1)) > (wrap64 (Int.tdiv x2 x3))))))) := by
  refine LimIs.step' (dist_more.L0_is x0 x1 x2 x3).1 (b := fun k => if x1 = 0 then (none) else (if x3 = 0 then (none) else (if (wrap64 (Int.tdiv x0 x1)) = (wrap64 (Int.tdiv x2 x3)) then (if (Int.tmod x0 x1) = 0 then (some (decide ((Int.tmod x0 x1) > 0))) else (if (Int.tmod x2 x3) = 0 then (some (decide ((Int.tmod x0 x1) > 0))) else (dist_more.l0 k x3 (Int.tmod x2 x3) x1 (Int.tmod x0 x1)))) else (some (decide ((wrap64 (Int.tdiv x0 x1)) > (wrap64 (Int.tdiv x2 x3)))))))) (fun k => by first | rfl | rw [dist_more.l0]) ?_
  repeat' first
    | (with_reducible exact dist_more.L0_is _ _ _ _)
    | (with_reducible exact LimIs.const _)
    | (with_reducible refine LimIs.ite ?_ ?_)
    | (with_reducible refine LimIs.bind ?_ (fun _ => ?_))
    | exact dist_more.L0_is _ _ _ _
    | exact LimIs.const _
    | refine LimIs.ite ?_ ?_
    | refine LimIs.bind ?_ (fun _ => ?_)
set_option maxRecDepth 100000 in
theorem dist_more.F_eq (a0 : Int) (a1 : Int) (a2 : Int) (a3 : Int) : dist_more.F a0 a1 a2 a3 = dist_more.L0 a0 a1 a2 a3 := by
  refine LimIs.out (?_ : LimIs (fun k => dist_more.l0 k a0 a1 a2 a3) _)
  repeat' first
    | (with_reducible exact dist_more.L0_is _ _ _ _)
    | (with_reducible exact LimIs.const _)
    | (with_reducible refine LimIs.ite ?_ ?_)
    | (with_reducible refine LimIs.bind ?_ (fun _ => ?_))
    | exact dist_more.L0_is _ _ _ _
    | exact LimIs.const _
    | refine LimIs.ite ?_ ?_
    | refine LimIs.bind ?_ (fun _ => ?_)
end Go.Proofs.Ytkemhfhmlcljjaa.PP
end
section
namespace Go.Proofs.Ytkemhfhmlcljjaa.PP
open Go.RowKit Go.Proofs.YtkemhfhmlcljjaaW.PrintWords Go.Proofs.YtkemhfhmlcljjaaW.PrintLast Go.Proofs.YtkemhfhmlcljjaaW.PrintMore
open Go.Proofs.YtkemhfhmlcljjaaW.EvKit
set_option linter.unusedVariables false
noncomputable def dist_Far.F (l0 : List S32) (l1 : List S32) : Option (Int × Int × Int) := lim (fun k => dist_Far.f k l0 l1)
theorem dist_Far.F_is (l0 : List S32) (l1 : List S32) : LimIs (fun k => dist_Far.f k l0 l1) (dist_Far.F l0 l1) := ⟨fun k => dist_Far.mono l0 l1 k, rfl⟩
set_option maxRecDepth 100000 in
theorem dist_Far.F_eq (l0 : List S32) (l1 : List S32) : dist_Far.F l0 l1 = (dist_wrongs.F [l0, l1]).bind fun e => if e = 0 then ((dist_total.F l0).bind fun ta => (dist_total.F l1).bind fun tb => if dGuard l0 l1 ta tb = true then some (farVal ta tb (pairsL l0 l1)) else none) else some (0, 0, e) := by
  refine LimIs.out (?_ : LimIs (fun k => (dist_wrongs.f k [l0, l1]).bind fun e => if e = 0 then ((dist_total.f k l0).bind fun ta => (dist_total.f k l1).bind fun tb => if dGuard l0 l1 ta tb = true then some (farVal ta tb (pairsL l0 l1)) else none) else some (0, 0, e)) _)
  repeat' first
    | (with_reducible exact dist_wrongs.F_is _)
    | (with_reducible exact dist_total.F_is _)
    | (with_reducible exact LimIs.const _)
    | (with_reducible refine LimIs.ite ?_ ?_)
    | (with_reducible refine LimIs.bind ?_ (fun _ => ?_))
    | exact dist_wrongs.F_is _
    | exact dist_total.F_is _
    | exact LimIs.const _
    | refine LimIs.ite ?_ ?_
    | refine LimIs.bind ?_ (fun _ => ?_)
end Go.Proofs.Ytkemhfhmlcljjaa.PP
end
section
namespace Go.Proofs.Ytkemhfhmlcljjaa.PP
open Go.RowKit Go.Proofs.YtkemhfhmlcljjaaW.PrintWords Go.Proofs.YtkemhfhmlcljjaaW.PrintLast Go.Proofs.YtkemhfhmlcljjaaW.PrintMore
open Go.Proofs.YtkemhfhmlcljjaaW.EvKit
set_option linter.unusedVariables false
noncomputable def dist_Apart.F (l0 : List S32) (l1 : List S32) : Option (Int × Int × Int) := lim (fun k => dist_Apart.f k l0 l1)
theorem dist_Apart.F_is (l0 : List S32) (l1 : List S32) : LimIs (fun k => dist_Apart.f k l0 l1) (dist_Apart.F l0 l1) := ⟨fun k => dist_Apart.mono l0 l1 k, rfl⟩
set_option maxRecDepth 100000 in
theorem dist_Apart.F_eq (l0 : List S32) (l1 : List S32) : dist_Apart.F l0 l1 = (dist_wrongs.F [l0, l1]).bind fun e => if e = 0 then ((dist_total.F l0).bind fun ta => (dist_total.F l1).bind fun tb => if dSize l0 = true then (if dSize l1 = true then ((dist_gcd.F (wrap64 (ta * tb)) (apN ta tb (pairsL l0 l1))).bind fun g => if g = 0 then none else some (apOut (wrap64 (Int.tdiv (apN ta tb (pairsL l0 l1)) g)) (wrap64 (Int.tdiv (wrap64 (ta * tb)) g)))) else none) else none) else some (0, 0, e) := by
  refine LimIs.out (?_ : LimIs (fun k => (dist_wrongs.f k [l0, l1]).bind fun e => if e = 0 then ((dist_total.f k l0).bind fun ta => (dist_total.f k l1).bind fun tb => if dSize l0 = true then (if dSize l1 = true then ((dist_gcd.f k (wrap64 (ta * tb)) (apN ta tb (pairsL l0 l1))).bind fun g => if g = 0 then none else some (apOut (wrap64 (Int.tdiv (apN ta tb (pairsL l0 l1)) g)) (wrap64 (Int.tdiv (wrap64 (ta * tb)) g)))) else none) else none) else some (0, 0, e)) _)
  repeat' first
    | (with_reducible exact dist_wrongs.F_is _)
    | (with_reducible exact dist_total.F_is _)
    | (with_reducible exact dist_gcd.F_is _ _)
    | (with_reducible exact LimIs.const _)
    | (with_reducible refine LimIs.ite ?_ ?_)
    | (with_reducible refine LimIs.bind ?_ (fun _ => ?_))
    | exact dist_wrongs.F_is _
    | exact dist_total.F_is _
    | exact dist_gcd.F_is _ _
    | exact LimIs.const _
    | refine LimIs.ite ?_ ?_
    | refine LimIs.bind ?_ (fun _ => ?_)
end Go.Proofs.Ytkemhfhmlcljjaa.PP
end
section
namespace Go.Proofs.Ytkemhfhmlcljjaa.DistPure
set_option linter.unusedVariables false
set_option linter.unusedSimpArgs false
open Go.RowKit Go.Proofs.Ytkemhfhmlcljjaa.PP Go.Proofs.YtkemhfhmlcljjaaW.PrintWords Go.Proofs.YtkemhfhmlcljjaaW.PrintLast Go.Proofs.YtkemhfhmlcljjaaW.PrintMore Go.Proofs.YtkemhfhmlcljjaaW.EvKit
structure RD (d : List S32) : Prop where
  bd : Bd d
  wr : wrongP d = 0
theorem RD.right {d : List S32} (h : RD d) : Right d := right_of h.wr
theorem RD.pw {d : List S32} (h : RD d) : ∀ p ∈ d, 0 < p.f1 := (right_more h.wr).1
theorem RD.nn {d : List S32} (h : RD d) : ∀ p ∈ d, 0 ≤ p.f1 := fun p hp => Int.le_of_lt (h.pw p hp)
theorem RD.tD {d : List S32} (h : RD d) : dist_total.F d = some (totOf d) := totF d h.bd.len h.nn (by have := h.right.few; omega)
theorem RD.wbd {d : List S32} (h : RD d) (o : List Int) : 0 ≤ wOf d o ∧ wOf d o ≤ 1073741824 := by
  have := wOf_le h.nn o
  have := h.right.few
  omega
structure Two (a b : List S32) : Prop where
  a : RD a
  b : RD b
theorem Two.ok {a b : List S32} (h : Two a b) (o : List Int) : pOk (pw a b o) := by
  have h1 := h.a.wbd o
  have h2 := h.b.wbd o
  exact ⟨h1.1, h1.2, h2.1, h2.2⟩
theorem Two.t {a b : List S32} (h : Two a b) : ∃ ta tb : Nat, totOf a = (ta : Int) ∧ totOf b = (tb : Int) ∧ 1 ≤ ta ∧ ta ≤ 1073741824 ∧ 1 ≤ tb ∧ tb ≤ 1073741824 := by
  have h1 := h.a.right
  have h2 := h.b.right
  refine ⟨(totOf a).toNat, (totOf b).toNat, ?_⟩
  have := h1.pos; have := h1.few; have := h2.pos; have := h2.few
  omega
theorem Two.perm {a b : List S32} (h : Two a b) : (pairsL a b).Perm ((outsL a b).map (pw a b)) := pairs_perm' h.a.right.st h.b.right.st h.a.pw
theorem Two.pok {a b : List S32} (h : Two a b) : ∀ x ∈ pairsL a b, pOk x := fun x hx => by
  obtain ⟨o, _, rfl⟩ := List.mem_map.1 (h.perm.mem_iff.1 hx)
  exact h.ok o
def farP (a b : List S32) : Int × Int × Int := if wrongP a = 0 then (if wrongP b = 0 then farVal (totOf a) (totOf b) (pairsL a b) else (0, 0, wrongP b)) else (0, 0, wrongP a)
def wrongs2 (a b : List S32) : Int := if wrongP a = 0 then wrongP b else wrongP a
theorem wrongsF (a b : List S32) (ha : Bd a) (hb : Bd b) : dist_wrongs.F [a, b] = some (wrongs2 a b) := by
  unfold wrongs2
  rw [dist_wrongs.F_eq]
  have e0 : rd_L3 [a, b] 0 = a := rfl
  have e1 : rd_L3 [a, b] 1 = b := rfl
  have l2 : (([a, b].length : Nat) : Int) = 2 := rfl
  have x1 : wrap64 ((0 : Int) + 1) = 1 := by decide +kernel
  have x2 : wrap64 ((1 : Int) + 1) = 2 := by decide +kernel
  rw [l2, dist_wrongs.L0_eq, l2, if_pos (by decide), if_pos (by decide), if_pos (by decide), e0, wrongF a ha, Option.bind_some, x1]
  by_cases c : wrongP a = 0
  · rw [if_pos c, if_pos c, dist_wrongs.L0_eq, l2, if_pos (by decide), if_pos (by decide), if_pos (by decide), e1, wrongF b hb, Option.bind_some, x2]
    by_cases c2 : wrongP b = 0
    · rw [if_pos c2, dist_wrongs.L0_eq, if_neg (by decide), c2]
    · rw [if_neg c2]
  · rw [if_neg c, if_neg c]
theorem dSizeB {a : List S32} (h : Bd a) : dSize a = true := by
  have h1 := h.len
  unfold dSize
  rw [Bool.and_eq_true, decide_eq_true_eq, List.all_eq_true]
  exact ⟨by omega, fun p hp => by have := h.out p hp; exact decide_eq_true (by omega)⟩
theorem tIn_of {t : Int} (h : 1 ≤ t) (h2 : t ≤ 1073741824) : tIn t = true := by unfold tIn; simp [h, h2]
theorem xIn_of {x : Int × Int} (h : pOk x) : xIn x = true := by obtain ⟨h1, h2, h3, h4⟩ := h; unfold xIn; simp [h1, h2, h3, h4]
theorem farF (a b : List S32) (ha : Bd a) (hb : Bd b) : dist_Far.F a b = some (farP a b) := by
  rw [dist_Far.F_eq, wrongsF a b ha hb, Option.bind_some]
  unfold wrongs2 farP
  by_cases c : wrongP a = 0
  · rw [if_pos c, if_pos c]
    by_cases c2 : wrongP b = 0
    · have h : Two a b := ⟨⟨ha, c⟩, ⟨hb, c2⟩⟩
      have h1 := h.a.right
      have h2 := h.b.right
      have := h1.pos; have := h1.few; have := h2.pos; have := h2.few
      rw [if_pos c2, if_pos c2, h.a.tD, Option.bind_some, h.b.tD, Option.bind_some]
      rw [if_pos (by
        unfold dGuard
        rw [dSizeB ha, dSizeB hb, tIn_of (by omega) (by omega), tIn_of (by omega) (by omega)]
        simpa using fun x y hx => xIn_of (h.pok (x, y) hx))]
    · rw [if_neg c2, if_neg c2]
  · rw [if_neg c, if_neg c, if_neg c]
def apT (ta tb : Int) (x : Int × Int) : Int := mx 0 (x.1 * tb - x.2 * ta)
theorem apT_bd {ta tb : Int} (h1 : 0 ≤ ta) (h2 : 0 ≤ tb) {x : Int × Int} (h : pOk x) : 0 ≤ apT ta tb x ∧ apT ta tb x ≤ x.1 * tb := by
  have h3 := Int.mul_nonneg h.1 h2
  have h4 := Int.mul_nonneg h.2.2.1 h1
  unfold apT mx
  split <;> omega
theorem prod_bd {x t : Int} (h0 : 0 ≤ x) (h1 : x ≤ 1073741824) (t0 : 0 ≤ t) (t1 : t ≤ 1073741824) : 0 ≤ x * t ∧ x * t ≤ 1152921504606846976 := by
  have h2 := Int.mul_nonneg h0 t0
  have h3 := Int.mul_le_mul h1 t1 t0 (by omega : (0 : Int) ≤ 1073741824)
  omega
theorem apN_go {ta tb : Int} (h1 : 0 ≤ ta) (h1' : ta ≤ 1073741824) (h2 : 0 ≤ tb) (h2' : tb ≤ 1073741824) : ∀ (L : List (Int × Int)) (n : Int), (∀ x ∈ L, pOk x) → 0 ≤ n → n + isum (L.map (fun x => x.1 * tb)) ≤ 1152921504606846976 →
    L.foldl (apStep ta tb) n = n + isum (L.map (apT ta tb)) ∧ 0 ≤ isum (L.map (apT ta tb)) ∧ isum (L.map (apT ta tb)) ≤ isum (L.map (fun x => x.1 * tb))
  | [], n, _, _, _ => ⟨by simp [isum], by simp [isum], by simp [isum]⟩
  | x :: L, n, h, hn, hb => by
    have hx := h x (by simp)
    have ht := apT_bd h1 h2 hx
    have p1 := prod_bd hx.1 hx.2.1 h2 h2'
    have p2 := prod_bd hx.2.2.1 hx.2.2.2 h1 h1'
    rw [List.map_cons, isum] at hb
    have hs : ∀ (M : List (Int × Int)), (∀ x ∈ M, pOk x) → 0 ≤ isum (M.map (fun x => x.1 * tb)) := by
      intro M
      induction M with
      | nil => intro _; simp [isum]
      | cons y M ih =>
        intro hM
        rw [List.map_cons, isum]
        have := Int.mul_nonneg (hM y (by simp)).1 h2
        have := ih (fun z hz => hM z (by simp [hz]))
        omega
    have hs' := hs L (fun z hz => h z (by simp [hz]))
    have e : apStep ta tb n x = n + apT ta tb x := by
      unfold apStep apT at *
      generalize x.1 * tb = u at *
      generalize x.2 * ta = v at *
      rw [wrap64_of (x := u) (by omega) (by omega), wrap64_of (x := v) (by omega) (by omega), wrap64_of (x := u - v) (by omega) (by omega), wrap64_of (by omega) (by omega)]
    obtain ⟨i1, i2, i3⟩ := apN_go h1 h1' h2 h2' L (n + apT ta tb x) (fun z hz => h z (by simp [hz])) (by omega) (by omega)
    rw [List.foldl_cons, e, i1, List.map_cons, List.map_cons, isum, isum]
    exact ⟨by omega, by omega, by omega⟩
theorem isum_mul (t : Int) : ∀ (l : List Int), isum (l.map (fun x => x * t)) = isum l * t
  | [] => by simp [isum]
  | a :: l => by rw [List.map_cons, isum, isum, isum_mul t l, Int.add_mul]
theorem pairs_sum : ∀ (n : Nat) (a b : List S32), a.length + b.length ≤ n → isum ((pairsL a b).map (·.1)) = totOf a
  | n, [], [], _ => by rw [pairs_nil]; rfl
  | 0, _ :: _, _, h => by simp at h
  | 0, [], _ :: _, h => by simp at h
  | n + 1, [], q :: b, h => by
    rw [pairs_r, List.map_cons, isum, pairs_sum n [] b (by simp at h ⊢; omega)]
    exact Int.zero_add _
  | n + 1, p :: a, [], h => by
    rw [pairs_l, List.map_cons, isum, pairs_sum n a [] (by simp at h ⊢; omega), totOf_cons]
  | n + 1, p :: a, q :: b, h => by
    by_cases h1 : cmpL p.f0 q.f0 < 0
    · rw [pairs_lt _ _ h1, List.map_cons, isum, pairs_sum n a (q :: b) (by simp at h ⊢; omega), totOf_cons]
    · by_cases h2 : cmpL p.f0 q.f0 > 0
      · rw [pairs_gt _ _ h2, List.map_cons, isum, pairs_sum n (p :: a) b (by simp at h ⊢; omega)]
        exact Int.zero_add _
      · rw [pairs_eq _ _ (by omega), List.map_cons, isum, pairs_sum n a b (by simp at h ⊢; omega), totOf_cons]
theorem pairs_prod (a b : List S32) (tb : Int) : isum ((pairsL a b).map (fun x => x.1 * tb)) = totOf a * tb := by
  have h := isum_mul tb ((pairsL a b).map (·.1))
  rw [List.map_map, pairs_sum _ a b (Nat.le_refl _)] at h
  exact h
def apSum (a b : List S32) : Int := isum ((pairsL a b).map (apT (totOf a) (totOf b)))
theorem Two.sum {a b : List S32} (h : Two a b) : apN (totOf a) (totOf b) (pairsL a b) = apSum a b ∧ 0 ≤ apSum a b ∧ apSum a b ≤ totOf a * totOf b ∧ 1 ≤ totOf a * totOf b ∧ totOf a * totOf b ≤ 1152921504606846976 := by
  have h1 := h.a.right
  have h2 := h.b.right
  have := h1.pos; have := h1.few; have := h2.pos; have := h2.few
  have hp := prod_bd (x := totOf a) (t := totOf b) (by omega) (by omega) (by omega) (by omega)
  have hq : 1 ≤ totOf a * totOf b := Int.mul_pos (by omega) (by omega)
  have hg := apN_go (ta := totOf a) (tb := totOf b) (by omega) (by omega) (by omega) (by omega) (pairsL a b) 0 h.pok (Int.le_refl 0) (by rw [pairs_prod]; omega)
  rw [pairs_prod] at hg
  refine ⟨?_, hg.2.1, hg.2.2, hq, hp.2⟩
  have := hg.1
  rw [Int.zero_add] at this
  exact this
def apEnd (n all : Int) : Int × Int × Int := if all / (Int.gcd n all : Nat) > 1073741824 then (0, 0, 4) else (n / (Int.gcd n all : Nat), all / (Int.gcd n all : Nat), 0)
def apartP (a b : List S32) : Int × Int × Int := if wrongP a = 0 then (if wrongP b = 0 then apEnd (apSum a b) (totOf a * totOf b) else (0, 0, wrongP b)) else (0, 0, wrongP a)
theorem dgcdF {a b : Int} (ha : 0 ≤ a) (hb : 0 ≤ b) : dist_gcd.F a b = some ((Int.gcd b a : Nat) : Int) := by
  obtain ⟨x, rfl⟩ := Int.eq_ofNat_of_zero_le ha
  obtain ⟨y, rfl⟩ := Int.eq_ofNat_of_zero_le hb
  exact ((dist_gcd.F_is _ _).iff _).2 (gcd_is x y)
theorem apartF (a b : List S32) (ha : Bd a) (hb : Bd b) : dist_Apart.F a b = some (apartP a b) := by
  rw [dist_Apart.F_eq, wrongsF a b ha hb, Option.bind_some]
  unfold wrongs2 apartP
  by_cases c : wrongP a = 0
  · rw [if_pos c, if_pos c]
    by_cases c2 : wrongP b = 0
    · have h : Two a b := ⟨⟨ha, c⟩, ⟨hb, c2⟩⟩
      obtain ⟨s1, s2, s3, s4, s5⟩ := h.sum
      rw [if_pos c2, if_pos c2, h.a.tD, Option.bind_some, h.b.tD, Option.bind_some, if_pos (dSizeB ha), if_pos (dSizeB hb), s1]
      generalize apSum a b = n at *
      generalize totOf a * totOf b = all at *
      have hg := gcd_pos (u := n) (d := all) s4
      rw [wrap64_of (x := all) (by omega) (by omega), dgcdF (by omega) s2, Option.bind_some, if_neg (by omega), quot s2 (by omega), quot (by omega) (by omega)]
      congr 1
      unfold apOut apEnd
      have hle : n / (Int.gcd n all : Nat) ≤ all / (Int.gcd n all : Nat) := Int.ediv_le_ediv (by omega) s3
      by_cases c3 : all / (Int.gcd n all : Nat) > 1073741824
      · rw [if_pos (.inr c3), if_pos c3]
      · rw [if_neg (by omega), if_neg c3]
    · rw [if_neg c2, if_neg c2]
  · rw [if_neg c, if_neg c, if_neg c]
end Go.Proofs.Ytkemhfhmlcljjaa.DistPure
end
section
namespace Go.Proofs.Ytkemhfhmlcljjaa.DistPure
set_option linter.unusedVariables false
set_option linter.unusedSimpArgs false
open Go.RowKit Go.Proofs.Ytkemhfhmlcljjaa.PP Go.Proofs.YtkemhfhmlcljjaaW.PrintWords Go.Proofs.YtkemhfhmlcljjaaW.PrintLast Go.Proofs.YtkemhfhmlcljjaaW.PrintMore Go.Proofs.YtkemhfhmlcljjaaW.EvKit
structure FarOK (a b : List S32) (ta tb : Nat) (s : Nat × Nat) : Prop where
  two : Two a b
  ea : totOf a = (ta : Int)
  eb : totOf b = (tb : Int)
  a1 : 1 ≤ ta
  b1 : 1 ≤ tb
  a2 : ta ≤ 1073741824
  b2 : tb ≤ 1073741824
  no : ∀ x ∈ pairsL a b, pNo x
  eq : fFold ta tb (pairsL a b) = s
  mx : Mx s ((pairsL a b).map (hl ta tb))
  co : Nat.gcd s.1 s.2 = 1
theorem farOut_ok {s : Nat × Nat} (h : (farOut s).2.2 = 0) : farOut s = ((s.1 : Int), (s.2 : Int), 0) ∧ s.1 ≤ 1073741824 ∧ s.2 ≤ 1073741824 := by
  unfold farOut at *
  by_cases c : s.1 > 1073741824 ∨ s.2 > 1073741824
  · rw [if_pos c] at h; cases h
  · rw [if_neg c]; exact ⟨rfl, by omega, by omega⟩
theorem far_mk {a b : List S32} (ha : Bd a) (hb : Bd b) (c : wrongP a = 0) (c2 : wrongP b = 0) (hn : ∀ x ∈ pairsL a b, pNo x) : ∃ ta tb s, FarOK a b ta tb s ∧ farP a b = farOut s := by
  have h : Two a b := ⟨⟨ha, c⟩, ⟨hb, c2⟩⟩
  obtain ⟨ta, tb, ea, eb, a1, a2, b1, b2⟩ := h.t
  obtain ⟨m, co⟩ := fFold_mx a1 a2 b1 b2 (L := pairsL a b) (fun x hx => ⟨h.pok x hx, hn x hx⟩)
  refine ⟨ta, tb, _, ⟨h, ea, eb, a1, b1, a2, b2, hn, rfl, m, co⟩, ?_⟩
  unfold farP
  rw [if_pos c, if_pos c2, farVal_yes hn, ea, eb]
  rfl
theorem far_yes {a b : List S32} (ha : Bd a) (hb : Bd b) (h : (farP a b).2.2 = 0) : ∃ ta tb s, FarOK a b ta tb s ∧ farP a b = ((s.1 : Int), (s.2 : Int), 0) ∧ s.1 ≤ 1073741824 ∧ s.2 ≤ 1073741824 := by
  by_cases c : wrongP a = 0
  · by_cases c2 : wrongP b = 0
    · by_cases hn : ∀ x ∈ pairsL a b, pNo x
      · obtain ⟨ta, tb, s, h1, h2⟩ := far_mk ha hb c c2 hn
        rw [h2] at h ⊢
        obtain ⟨h3, h4, h5⟩ := farOut_ok h
        exact ⟨ta, tb, s, h1, h3, h4, h5⟩
      · have hn' : ∃ x ∈ pairsL a b, ¬ pNo x := by simpa using hn
        unfold farP at h
        rw [if_pos c, if_pos c2, farVal_no hn'] at h
        cases h
    · unfold farP at h
      rw [if_pos c, if_neg c2] at h
      exact absurd h c2
  · unfold farP at h
    rw [if_neg c] at h
    exact absurd h c
theorem in_outs {a b : List S32} (o : List Int) (h : 0 < wOf a o ∨ 0 < wOf b o) : o ∈ outsL a b := by
  unfold outsL
  by_cases c : 0 < wOf a o
  · obtain ⟨q, hq, e⟩ := wOf_mem c
    exact List.mem_append.2 (.inl (List.mem_map.2 ⟨q, hq, e⟩))
  · have hb := h.resolve_left c
    obtain ⟨q, hq, e⟩ := wOf_mem hb
    by_cases c2 : wOf a o = 0
    · exact List.mem_append.2 (.inr (List.mem_map.2 ⟨q, List.mem_filter.2 ⟨hq, by rw [e]; exact decide_eq_true c2⟩, e⟩))
    · obtain ⟨p, hp, e2⟩ : ∃ p ∈ a, p.f0 = o := by
        refine Classical.byContradiction (fun hx => c2 (wOf_none a o (fun q hq e => hx ⟨q, hq, e⟩)))
      exact List.mem_append.2 (.inl (List.mem_map.2 ⟨p, hp, e2⟩))
theorem FarOK.at {a b : List S32} {ta tb : Nat} {s : Nat × Nat} (h : FarOK a b ta tb s) (o : List Int) (ho : 0 < wOf a o ∨ 0 < wOf b o) :
    0 < wOf a o ∧ 0 < wOf b o ∧ le2 (uv ta tb (pw a b o)) s ∧ le2 (uv ta tb (pw a b o)).swap s ∧ pos2 (uv ta tb (pw a b o)) := by
  have hm : pw a b o ∈ pairsL a b := h.two.perm.mem_iff.2 (List.mem_map.2 ⟨o, in_outs o ho, rfl⟩)
  have hn := h.no _ hm
  have hk := h.two.ok o
  have hu := uv_bd h.a1 h.a2 h.b1 h.b2 hk hn
  have hp : pos2 (uv ta tb (pw a b o)) := ⟨hu.1, hu.2.2.1⟩
  have hh : 1 ≤ (hl ta tb (pw a b o)).2 := by
    rcases hl_uv ta tb (pw a b o) with e | e
    · rw [e]; exact hp.2
    · rw [e]; exact hp.1
  have hub := h.mx.ub _ (List.mem_map.2 ⟨_, hm, rfl⟩)
  have h1 := h.two.a.wbd o
  have h2 := h.two.b.wbd o
  have n1 : ¬ wOf a o = 0 := hn.1
  have n2 : ¬ wOf b o = 0 := hn.2
  exact ⟨by omega, by omega, le2_trans hh (uv_hl ta tb _).1 hub, le2_trans hh (uv_hl ta tb _).2 hub, hp⟩
theorem FarOK.some {a b : List S32} {ta tb : Nat} {s : Nat × Nat} (h : FarOK a b ta tb s) : le2 s (1, 1) ∨ ∃ o, 0 < wOf a o ∧ 0 < wOf b o ∧ (le2 s (uv ta tb (pw a b o)) ∨ le2 s (uv ta tb (pw a b o)).swap) := by
  rcases h.mx.got with c | ⟨f, hf, c⟩
  · exact .inl c
  · obtain ⟨x, hx, rfl⟩ := List.mem_map.1 hf
    obtain ⟨o, ho, rfl⟩ := List.mem_map.1 (h.two.perm.mem_iff.1 hx)
    have hn := h.no _ hx
    have h1 := h.two.a.wbd o
    have h2 := h.two.b.wbd o
    have n1 : ¬ wOf a o = 0 := hn.1
    have n2 : ¬ wOf b o = 0 := hn.2
    refine .inr ⟨o, by omega, by omega, ?_⟩
    rcases hl_uv ta tb (pw a b o) with e | e
    · rw [e] at c; exact .inl c
    · rw [e] at c; exact .inr c
def tT (a b : List S32) (o : List Int) : Int := apT (totOf a) (totOf b) (pw a b o)
theorem tT_is (a b : List S32) (o : List Int) : tT a b o = mx 0 (wOf a o * totOf b - wOf b o * totOf a) := rfl
theorem Two.tpos {a b : List S32} (h : Two a b) : 1 ≤ totOf a ∧ totOf a ≤ 1073741824 ∧ 1 ≤ totOf b ∧ totOf b ≤ 1073741824 := by
  have h1 := h.a.right
  have h2 := h.b.right
  have := h1.pos; have := h1.few; have := h2.pos; have := h2.few
  omega
theorem tT_bd {a b : List S32} (h : Two a b) (o : List Int) : 0 ≤ tT a b o := by
  have := h.tpos
  exact (apT_bd (by omega) (by omega) (h.ok o)).1
theorem tT_zero {a b : List S32} (h : Two a b) {o : List Int} (ho : wOf a o = 0) : tT a b o = 0 := by
  have h1 := h.tpos
  have h2 := h.b.wbd o
  have h3 := Int.mul_nonneg h2.1 (show 0 ≤ totOf a by omega)
  rw [tT_is, ho, Int.zero_mul]
  unfold mx
  rw [if_neg (by omega)]
theorem isum_zeros : ∀ (l : List Int), (∀ x ∈ l, x = 0) → isum l = 0
  | [], _ => rfl
  | x :: l, h => by rw [isum, h x (by simp), isum_zeros l (fun y hy => h y (by simp [hy]))]; rfl
theorem apSum_a {a b : List S32} (h : Two a b) : apSum a b = isum ((a.map (·.f0)).map (tT a b)) := by
  have e : apSum a b = isum (((outsL a b).map (pw a b)).map (apT (totOf a) (totOf b))) := isum_perm (h.perm.map _)
  rw [e, List.map_map]
  unfold outsL
  rw [List.map_append, isum_app]
  have z : isum (((b.filter (fun p => decide (wOf a p.f0 = 0))).map (·.f0)).map (apT (totOf a) (totOf b) ∘ pw a b)) = 0 := by
    refine isum_zeros _ (fun x hx => ?_)
    obtain ⟨o, ho, rfl⟩ := List.mem_map.1 hx
    obtain ⟨p, hp, rfl⟩ := List.mem_map.1 ho
    exact tT_zero h (of_decide_eq_true (List.mem_filter.1 hp).2)
  rw [z, Int.add_zero]
  rfl
theorem isum_le_sub : ∀ (O B : List (List Int)) (G : List Int → Int), (∀ o, 0 ≤ G o) → O.Nodup → (∀ o ∈ O, G o ≠ 0 → o ∈ B) → isum (O.map G) ≤ isum (B.map G)
  | [], B, G, h0, _, _ => by
    rw [List.map_nil]
    refine isum_nonneg _ (fun x hx => ?_)
    obtain ⟨o, _, rfl⟩ := List.mem_map.1 hx
    exact h0 o
  | o :: O, B, G, h0, hn, hm => by
    have hn' := List.nodup_cons.1 hn
    rw [List.map_cons, isum]
    by_cases c : G o = 0
    · have := isum_le_sub O B G h0 hn'.2 (fun x hx => hm x (by simp [hx]))
      omega
    · have ho := hm o (by simp) c
      have hp : B.Perm (o :: B.erase o) := List.perm_cons_erase ho
      have e := isum_perm (hp.map G)
      rw [List.map_cons, isum] at e
      have := isum_le_sub O (B.erase o) G h0 hn'.2 (fun x hx hx0 => by
        have hx2 := hm x (by simp [hx]) hx0
        exact (List.mem_erase_of_ne (fun e => hn'.1 (by rw [← e]; exact hx))).2 hx2)
      omega
theorem strict_nodup {d : List S32} (h : Strict d) : (d.map (·.f0)).Nodup := by
  unfold List.Nodup
  rw [List.pairwise_map]
  exact List.Pairwise.imp (fun h => lt_ne h) h
theorem apart_yes {a b : List S32} (ha : Bd a) (hb : Bd b) (h : (apartP a b).2.2 = 0) : ∃ _ : Two a b, ∃ x y : Int, apartP a b = (x, y, 0) ∧ 0 ≤ x ∧ x ≤ y ∧ 1 ≤ y ∧ y ≤ 1073741824 ∧ Int.gcd x y = 1 ∧ x * (totOf a * totOf b) = apSum a b * y ∧ (x = 0 ↔ apSum a b = 0) := by
  by_cases c : wrongP a = 0
  · by_cases c2 : wrongP b = 0
    · have hT : Two a b := ⟨⟨ha, c⟩, ⟨hb, c2⟩⟩
      obtain ⟨s1, s2, s3, s4, s5⟩ := hT.sum
      refine ⟨hT, ?_⟩
      unfold apartP at *
      rw [if_pos c, if_pos c2] at *
      generalize apSum a b = n at *
      generalize totOf a * totOf b = all at *
      have hg := gcd_pos (u := n) (d := all) s4
      unfold apEnd at *
      by_cases c3 : all / (Int.gcd n all : Nat) > 1073741824
      · rw [if_pos c3] at h; cases h
      · rw [if_neg c3]
        have d1 : ((Int.gcd n all : Nat) : Int) ∣ n := Int.gcd_dvd_left ..
        have d2 : ((Int.gcd n all : Nat) : Int) ∣ all := Int.gcd_dvd_right ..
        have m1 := Int.ediv_mul_cancel d1
        have m2 := Int.ediv_mul_cancel d2
        have hc : Int.gcd (n / (Int.gcd n all : Nat)) (all / (Int.gcd n all : Nat)) = 1 := by
          rw [Int.gcd_ediv_gcd_ediv_gcd]
          omega
        have hle : n / (Int.gcd n all : Nat) ≤ all / (Int.gcd n all : Nat) := Int.ediv_le_ediv (by omega) s3
        have h0 : 0 ≤ n / (Int.gcd n all : Nat) := Int.ediv_nonneg s2 (by omega)
        refine ⟨_, _, rfl, h0, hle, ?_, by omega, hc, ?_, ?_⟩
        · generalize all / (Int.gcd n all : Nat) = y at *
          rcases Int.lt_or_le 0 y with c | c
          · exact c
          · have := Int.mul_nonpos_of_nonpos_of_nonneg c (show (0 : Int) ≤ (Int.gcd n all : Nat) by omega)
            omega
        · generalize hx : n / (Int.gcd n all : Nat) = x at *
          generalize hy : all / (Int.gcd n all : Nat) = y at *
          generalize ((Int.gcd n all : Nat) : Int) = g at *
          rw [← m1, ← m2]
          grind
        · constructor
          · intro e
            rw [e, Int.zero_mul] at m1
            exact m1.symm
          · intro e
            rw [e]; exact Int.zero_ediv _
    · unfold apartP at h
      rw [if_pos c, if_neg c2] at h
      exact absurd h c2
  · unfold apartP at h
    rw [if_neg c] at h
    exact absurd h c
end Go.Proofs.Ytkemhfhmlcljjaa.DistPure
end
section
namespace Go.Proofs.Ytkemhfhmlcljjaa.PP
open Go.RowKit Go.Proofs.YtkemhfhmlcljjaaW.PrintWords Go.Proofs.YtkemhfhmlcljjaaW.PrintLast Go.Proofs.YtkemhfhmlcljjaaW.PrintMore
open Go.Proofs.YtkemhfhmlcljjaaW.EvKit
set_option linter.unusedVariables false
noncomputable def plain_to.L0 (x1 : List Int) (x7 : List (S93)) (x8 : Int) (x9 : Int) : Option (List Int) := lim (fun k => plain_to.l0 k x1 x7 x8 x9)
theorem plain_to.L0_is (x1 : List Int) (x7 : List (S93)) (x8 : Int) (x9 : Int) : LimIs (fun k => plain_to.l0 k x1 x7 x8 x9) (plain_to.L0 x1 x7 x8 x9) := ⟨fun k => (plain_to.mono_l k) x1 x7 x8 x9, rfl⟩
noncomputable def plain_to.F (l0 : List (S93)) (l1 : List Int) : Option (List Int) := lim (fun k => plain_to.f k l0 l1)
theorem plain_to.F_is (l0 : List (S93)) (l1 : List Int) : LimIs (fun k => plain_to.f k l0 l1) (plain_to.F l0 l1) := ⟨fun k => plain_to.mono l0 l1 k, rfl⟩
noncomputable def plain_Map_1.F (l0 : List Int) (l1 : List (S93)) : Option (List Int) := lim (fun k => plain_Map_1.f k l0 l1)
theorem plain_Map_1.F_is (l0 : List Int) (l1 : List (S93)) : LimIs (fun k => plain_Map_1.f k l0 l1) (plain_Map_1.F l0 l1) := ⟨fun k => plain_Map_1.mono l0 l1 k, rfl⟩
set_option maxRecDepth 100000 in
theorem plain_to.L0_eq (x1 : List Int) (x7 : List (S93)) (x8 : Int) (x9 : Int) : plain_to.L0 x1 x7 x8 x9 = if x9 < x8 then (if 0 ≤ x9 then (if x9 < (x7.length : Int) then ((slices_Equal_int_int.F ((rd_T93 x7 x9).f0) x1).bind fun t165 => (if t165 = true then (some ((rd_T93 x7 x9).f1)) else (plain_to.L0 x1 x7 x8 (wrap64 (x9 + 1))))) else (none)) else (none)) else (some x1) := by
  refine LimIs.step' (plain_to.L0_is x1 x7 x8 x9).1 (b := fun k => if x9 < x8 then (if 0 ≤ x9 then (if x9 < (x7.length : Int) then ((slices_Equal_int_int.f k ((rd_T93 x7 x9).f0) x1).bind fun t165 => (if t165 = true then (some ((rd_T93 x7 x9).f1)) else (plain_to.l0 k x1 x7 x8 (wrap64 (x9 + 1))))) else (none)) else (none)) else (some x1)) (fun k => by first | rfl | rw [plain_to.l0]) ?_
  repeat' first
    | (with_reducible exact slices_Equal_int_int.F_is _ _)
    | (with_reducible exact plain_to.L0_is _ _ _ _)
    | (with_reducible exact LimIs.const _)
    | (with_reducible refine LimIs.ite ?_ ?_)
    | (with_reducible refine LimIs.bind ?_ (fun _ => ?_))
    | exact slices_Equal_int_int.F_is _ _
    | exact plain_to.L0_is _ _ _ _
    | exact LimIs.const _
    | refine LimIs.ite ?_ ?_
    | refine LimIs.bind ?_ (fun _ => ?_)
set_option maxRecDepth 100000 in
theorem plain_to.F_eq (l0 : List (S93)) (l1 : List Int) : plain_to.F l0 l1 = plain_to.L0 l1 l0 (l0.length : Int) 0 := by
  refine LimIs.out (?_ : LimIs (fun k => plain_to.l0 k l1 l0 (l0.length : Int) 0) _)
  repeat' first
    | (with_reducible exact plain_to.L0_is _ _ _ _)
    | (with_reducible exact LimIs.const _)
    | (with_reducible refine LimIs.ite ?_ ?_)
    | (with_reducible refine LimIs.bind ?_ (fun _ => ?_))
    | exact plain_to.L0_is _ _ _ _
    | exact LimIs.const _
    | refine LimIs.ite ?_ ?_
    | refine LimIs.bind ?_ (fun _ => ?_)
set_option maxRecDepth 100000 in
theorem plain_Map_1.F_eq (l0 : List Int) (l1 : List (S93)) : plain_Map_1.F l0 l1 = (plain_to.F l1 l0).bind fun t166 => (some t166) := by
  refine LimIs.out (?_ : LimIs (fun k => (plain_to.f k l1 l0).bind fun t166 => (some t166)) _)
  repeat' first
    | (with_reducible exact plain_to.F_is _ _)
    | (with_reducible exact LimIs.const _)
    | (with_reducible refine LimIs.ite ?_ ?_)
    | (with_reducible refine LimIs.bind ?_ (fun _ => ?_))
    | exact plain_to.F_is _ _
    | exact LimIs.const _
    | refine LimIs.ite ?_ ?_
    | refine LimIs.bind ?_ (fun _ => ?_)
end Go.Proofs.Ytkemhfhmlcljjaa.PP
end
section
namespace Go.Proofs.Ytkemhfhmlcljjaa.PP
open Go.RowKit Go.Proofs.YtkemhfhmlcljjaaW.PrintWords Go.Proofs.YtkemhfhmlcljjaaW.PrintLast Go.Proofs.YtkemhfhmlcljjaaW.PrintMore
open Go.Proofs.YtkemhfhmlcljjaaW.EvKit
set_option linter.unusedVariables false
noncomputable def dist_Map.L0 (x1 : List (S93)) (x7 : List (S32)) (x15 : List (S32)) (x16 : Int) (x17 : Int) : Option ((List (S32)) × Int) := lim (fun k => dist_Map.l0 k x1 x7 x15 x16 x17)
theorem dist_Map.L0_is (x1 : List (S93)) (x7 : List (S32)) (x15 : List (S32)) (x16 : Int) (x17 : Int) : LimIs (fun k => dist_Map.l0 k x1 x7 x15 x16 x17) (dist_Map.L0 x1 x7 x15 x16 x17) := ⟨fun k => (dist_Map.mono_l k) x1 x7 x15 x16 x17, rfl⟩
noncomputable def dist_Map.F (l0 : List (S32)) (l1 : List (S93)) : Option ((List (S32)) × Int) := lim (fun k => dist_Map.f k l0 l1)
theorem dist_Map.F_is (l0 : List (S32)) (l1 : List (S93)) : LimIs (fun k => dist_Map.f k l0 l1) (dist_Map.F l0 l1) := ⟨fun k => dist_Map.mono l0 l1 k, rfl⟩
noncomputable def plain_Map.F (l0 : List S32) (l1 : List S93) : Option (List S32 × Int) := lim (fun k => plain_Map.f k l0 l1)
theorem plain_Map.F_is (l0 : List S32) (l1 : List S93) : LimIs (fun k => plain_Map.f k l0 l1) (plain_Map.F l0 l1) := ⟨fun k => plain_Map.mono l0 l1 k, rfl⟩
set_option maxRecDepth 100000 in
theorem dist_Map.L0_eq (x1 : List (S93)) (x7 : List (S32)) (x15 : List (S32)) (x16 : Int) (x17 : Int) : dist_Map.L0 x1 x7 x15 x16 x17 = if x17 < x16 then (if 0 ≤ x17 then (if x17 < (x15.length : Int) then ((slices_Clone_int_int.f ((rd_T32 x15 x17).f0)).bind fun t172 => ((plain_Map_1.F t172 x1).bind fun t175 => (if x7.length < 4398046511104 then (dist_Map.L0 x1 (x7 ++ [(⟨t175, (rd_T32 x15 x17).f1⟩ : S32)]) x15 x16 (wrap64 (x17 + 1))) else (none)))) else (none)) else (none)) else ((dist_Make.F x7).bind fun bt181 => (some (bt181.1, bt181.2))) := by
  refine LimIs.step' (dist_Map.L0_is x1 x7 x15 x16 x17).1 (b := fun k => if x17 < x16 then (if 0 ≤ x17 then (if x17 < (x15.length : Int) then ((slices_Clone_int_int.f ((rd_T32 x15 x17).f0)).bind fun t172 => ((plain_Map_1.f k t172 x1).bind fun t175 => (if x7.length < 4398046511104 then (dist_Map.l0 k x1 (x7 ++ [(⟨t175, (rd_T32 x15 x17).f1⟩ : S32)]) x15 x16 (wrap64 (x17 + 1))) else (none)))) else (none)) else (none)) else ((dist_Make.f k x7).bind fun bt181 => (some (bt181.1, bt181.2)))) (fun k => by first | rfl | rw [dist_Map.l0]) ?_
  repeat' first
    | (with_reducible exact plain_Map_1.F_is _ _)
    | (with_reducible exact dist_Map.L0_is _ _ _ _ _)
    | (with_reducible exact dist_Make.F_is _)
    | (with_reducible exact LimIs.const _)
    | (with_reducible refine LimIs.ite ?_ ?_)
    | (with_reducible refine LimIs.bind ?_ (fun _ => ?_))
    | exact plain_Map_1.F_is _ _
    | exact dist_Map.L0_is _ _ _ _ _
    | exact dist_Make.F_is _
    | exact LimIs.const _
    | refine LimIs.ite ?_ ?_
    | refine LimIs.bind ?_ (fun _ => ?_)
set_option maxRecDepth 100000 in
theorem dist_Map.F_eq (l0 : List (S32)) (l1 : List (S93)) : dist_Map.F l0 l1 = (dist_Wrong.F l0).bind fun t169 => (if t169 = 0 then (dist_Map.L0 l1 ([] : List (S32)) l0 (l0.length : Int) 0) else (some (([] : List (S32)), t169))) := by
  refine LimIs.out (?_ : LimIs (fun k => (dist_Wrong.f k l0).bind fun t169 => (if t169 = 0 then (dist_Map.l0 k l1 ([] : List (S32)) l0 (l0.length : Int) 0) else (some (([] : List (S32)), t169)))) _)
  repeat' first
    | (with_reducible exact dist_Wrong.F_is _)
    | (with_reducible exact dist_Map.L0_is _ _ _ _ _)
    | (with_reducible exact LimIs.const _)
    | (with_reducible refine LimIs.ite ?_ ?_)
    | (with_reducible refine LimIs.bind ?_ (fun _ => ?_))
    | exact dist_Wrong.F_is _
    | exact dist_Map.L0_is _ _ _ _ _
    | exact LimIs.const _
    | refine LimIs.ite ?_ ?_
    | refine LimIs.bind ?_ (fun _ => ?_)
set_option maxRecDepth 100000 in
theorem plain_Map.F_eq (l0 : List S32) (l1 : List S93) : plain_Map.F l0 l1 = dist_Map.F l0 l1 := by
  refine LimIs.out (?_ : LimIs (fun k => dist_Map.f k l0 l1) _)
  repeat' first
    | (with_reducible exact dist_Map.F_is _ _)
    | (with_reducible exact LimIs.const _)
    | (with_reducible refine LimIs.ite ?_ ?_)
    | (with_reducible refine LimIs.bind ?_ (fun _ => ?_))
    | exact dist_Map.F_is _ _
    | exact LimIs.const _
    | refine LimIs.ite ?_ ?_
    | refine LimIs.bind ?_ (fun _ => ?_)
end Go.Proofs.Ytkemhfhmlcljjaa.PP
end
section
namespace Go.Proofs.Ytkemhfhmlcljjaa.DistPure
set_option linter.unusedVariables false
set_option linter.unusedSimpArgs false
open Go.RowKit Go.Proofs.Ytkemhfhmlcljjaa.PP Go.Proofs.YtkemhfhmlcljjaaW.PrintWords Go.Proofs.YtkemhfhmlcljjaaW.PrintLast Go.Proofs.YtkemhfhmlcljjaaW.PrintMore Go.Proofs.YtkemhfhmlcljjaaW.EvKit
theorem g1_of {l : List S32} (hp : ∀ p ∈ l, 0 < p.f1) (hn : l ≠ []) : gOf (divG l) = 1 := by
  have hg := gOf_pos hp hn
  have h1 : gOf l * gOf (divG l) ∣ gOf l := gOf_max (fun q hq => by
    obtain ⟨m, _, h2, h3⟩ := div_pos' (hp q hq) hg (gOf_dvd hq)
    have h4 := gOf_dvd (List.mem_map.2 ⟨q, hq, rfl⟩ : (⟨q.f0, q.f1 / (gOf l : Int)⟩ : S32) ∈ divG l)
    rw [h3]
    refine Nat.mul_dvd_mul_left _ ?_
    have h5 : (q.f1 / (gOf l : Int)).toNat = m := by rw [h2]; omega
    rw [← h5]
    exact h4)
  have h2 := Nat.le_of_dvd hg h1
  have h3 : 0 < gOf (divG l) := by
    refine gOf_pos (fun p hp' => ?_) (by unfold divG; simpa using hn)
    obtain ⟨q, hq, rfl⟩ := List.mem_map.1 hp'
    obtain ⟨m, h1, h2, _⟩ := div_pos' (hp q hq) hg (gOf_dvd hq)
    show 0 < q.f1 / (gOf l : Int)
    omega
  generalize gOf (divG l) = x at *
  rcases Nat.lt_or_ge 1 x with c | c
  · have := Nat.mul_lt_mul_of_pos_left c hg
    omega
  · omega
theorem divG_same {l : List S32} (h : gOf l = 1) : divG l = l := by
  unfold divG
  rw [h]
  have e3 : ∀ L : List S32, L.map (fun p => (⟨p.f0, p.f1 / ((1 : Nat) : Int)⟩ : S32)) = L := fun L => by
    induction L with
    | nil => rfl
    | cons p L ih =>
      rw [List.map_cons, ih]
      congr 1
      have : p.f1 / ((1 : Nat) : Int) = p.f1 := by rw [Int.natCast_one, Int.ediv_one]
      rw [this]
  exact e3 l
theorem make_right {l : List S32} (hb : Bd l) (h : (makeP l).2 = 0) : wrongP (makeP l).1 = 0 ∧ ∃ g : Nat, 0 < g ∧ (∀ o, wOf (makeP l).1 o * (g : Int) = wOf l o) ∧ totOf (makeP l).1 * (g : Int) = totOf l := by
  unfold makeP at h ⊢
  by_cases ho : l.all okP = true
  · rw [if_pos ho] at h ⊢
    have h0 : ∀ p ∈ l, 0 ≤ p.f1 := fun p hp => (all_ok ho p hp).1
    have hc := tidy_canon h0
    have htot := tMerge_tot l
    have hout : ∀ q ∈ tMerge (sortP l), smallB q.f0 = true := fun q hq => by
      obtain ⟨p, hp, e, _⟩ := (outs_iff hc h0 q.f0).2 ⟨q, hq, rfl⟩
      rw [← e]
      exact (okP_iff.1 (List.all_eq_true.1 ho p hp)).1
    generalize hD : tMerge (sortP l) = D at *
    unfold tDone at h ⊢
    by_cases e1 : D = []
    · rw [if_pos e1] at h; cases h
    · rw [if_neg e1] at h ⊢
      by_cases e2 : totOf D / (gOf D : Int) > 1073741824 ∨ D.length > 4096
      · rw [if_pos e2] at h; cases h
      · rw [if_neg e2]
        have hg := gOf_pos hc.pos e1
        have all : ∀ p ∈ D, 0 < p.f1 ∧ gOf D ∣ p.f1.toNat := fun p hp => ⟨hc.pos p hp, gOf_dvd hp⟩
        have hs := div_sum (gOf D : Int) (by omega) D
        have ps : ∀ p ∈ divG D, 0 < p.f1 := fun p hp => by
          obtain ⟨q, hq, rfl⟩ := List.mem_map.1 hp
          obtain ⟨m, h1, h2, _⟩ := div_pos' (hc.pos q hq) hg (gOf_dvd hq)
          show 0 < q.f1 / (gOf D : Int)
          omega
        have hO : Ord (divG D) := by
          refine ⟨?_, ps, ?_, by unfold divG; simpa using e1, ?_, by unfold divG; rw [List.length_map]; omega⟩
          · unfold Strict divG
            rw [List.pairwise_map]
            exact hc.st
          · rw [List.all_eq_true]
            intro q hq
            have h3 := one_le (l := divG D) (fun p hp => Int.le_of_lt (ps p hp)) hq
            have h4 := ps q hq
            have h5 : totOf (divG D) ≤ totOf D / (gOf D : Int) := hs
            obtain ⟨p, hp, rfl⟩ := List.mem_map.1 hq
            exact okP_iff.2 ⟨hout p hp, by omega, by omega⟩
          · have h5 : totOf (divG D) ≤ totOf D / (gOf D : Int) := hs
            omega
        have hg1 := g1_of hc.pos e1
        constructor
        · show wrongP (divG D) = 0
          unfold wrongP
          rw [hO.make, divG_same hg1]
          simp
        · refine ⟨gOf D, hg, fun o => ?_, ?_⟩
          · exact (wOf_map (gOf D) hg o D all).trans (hc.w o)
          · exact (tot_map (gOf D) hg D all).trans htot
  · rw [if_neg ho] at h; cases h
end Go.Proofs.Ytkemhfhmlcljjaa.DistPure
end
section
namespace Go.Proofs.Ytkemhfhmlcljjaa.DistPure
set_option linter.unusedVariables false
set_option linter.unusedSimpArgs false
open Go.RowKit Go.Proofs.Ytkemhfhmlcljjaa.PP Go.Proofs.YtkemhfhmlcljjaaW.PrintWords Go.Proofs.YtkemhfhmlcljjaaW.PrintLast Go.Proofs.YtkemhfhmlcljjaaW.PrintMore Go.Proofs.YtkemhfhmlcljjaaW.EvKit
def toP : List S93 → List Int → List Int
  | [], o => o
  | p :: l, o => if p.f0 = o then p.f1 else toP l o
structure PBd (l : List S93) : Prop where
  len : l.length ≤ 1048576
  frm : ∀ p ∈ l, p.f0.length ≤ 1048576
  into : ∀ p ∈ l, p.f1.length ≤ 1048576
theorem toP_len : ∀ (l : List S93) (o : List Int), (∀ p ∈ l, p.f1.length ≤ 1048576) → o.length ≤ 1048576 → (toP l o).length ≤ 1048576
  | [], o, _, ho => ho
  | p :: l, o, h, ho => by
    rw [toP]
    split
    · exact h p (by simp)
    · exact toP_len l o (fun q hq => h q (by simp [hq])) ho
theorem rd93At {xs : List S93} {i : Nat} (h : i < xs.length) : rd_T93 xs (i : Int) = xs[i] := by
  unfold rd_T93
  rw [Int.toNat_natCast, List.getD_eq_getElem?_getD, List.getElem?_eq_getElem h]; rfl
theorem to_loop (l : List S93) (hl : PBd l) (o : List Int) : ∀ (m i : Nat), i + m = l.length →
    plain_to.L0 o l (l.length : Int) (i : Int) = some (toP (l.drop i) o) := by
  have hlen := hl.len
  intro m
  induction m with
  | zero =>
    intro i hi
    rw [plain_to.L0_eq, if_neg (by omega), List.drop_of_length_le (by omega)]; rfl
  | succ m ih =>
    intro i hi
    have hx : i < l.length := by omega
    have hf := hl.frm _ (List.getElem_mem hx)
    rw [plain_to.L0_eq, if_pos (by omega), if_pos (by omega), if_pos (by omega), rd93At hx, eqF _ _ hf, Option.bind_some, List.drop_eq_getElem_cons hx, toP]
    by_cases c : l[i].f0 = o
    · rw [decide_eq_true c, if_pos rfl, if_pos c]
    · rw [decide_eq_false c, if_neg (by decide), if_neg c, w1 (by omega)]
      exact ih (i + 1) (by omega)
theorem toF (l : List S93) (hl : PBd l) (o : List Int) : plain_to.F l o = some (toP l o) := by
  have h := to_loop l hl o l.length 0 (by omega)
  rw [plain_to.F_eq]
  exact h
def mapL (ps : List S93) (d : List S32) : List S32 := d.map (fun p => (⟨toP ps p.f0, p.f1⟩ : S32))
def mapP (d : List S32) (ps : List S93) : List S32 × Int := if wrongP d = 0 then makeP (mapL ps d) else ([], wrongP d)
theorem mapL_bd {ps : List S93} {d : List S32} (hp : PBd ps) (hd : Bd d) : Bd (mapL ps d) := by
  refine ⟨by unfold mapL; rw [List.length_map]; exact hd.len, fun q hq => ?_⟩
  obtain ⟨p, hp', rfl⟩ := List.mem_map.1 hq
  exact toP_len ps p.f0 hp.into (hd.out p hp')
theorem map_loop (ps : List S93) (d : List S32) (hp : PBd ps) (hd : Bd d) : ∀ (m i : Nat), i + m = d.length →
    dist_Map.L0 ps ((mapL ps d).take i) d (d.length : Int) (i : Int) = some (makeP (mapL ps d)) := by
  have hl := hd.len
  have hml : (mapL ps d).length = d.length := by unfold mapL; rw [List.length_map]
  intro m
  induction m with
  | zero =>
    intro i hi
    rw [List.take_of_length_le (by omega), dist_Map.L0_eq, if_neg (by omega), makeF1 _ (mapL_bd hp hd), Option.bind_some]
  | succ m ih =>
    intro i hi
    have hx : i < d.length := by omega
    have ho := hd.out _ (List.getElem_mem hx)
    have e : (mapL ps d).take i ++ [(⟨toP ps d[i].f0, d[i].f1⟩ : S32)] = (mapL ps d).take (i + 1) := by
      rw [List.take_succ_eq_append_getElem (by omega)]
      congr 2
      unfold mapL
      rw [List.getElem_map]
    have k1 : plain_Map_1.F d[i].f0 ps = some (toP ps d[i].f0) := by rw [plain_Map_1.F_eq, toF ps hp, Option.bind_some]
    have e0 : ((mapL ps d).take i).length = i := by rw [List.length_take]; omega
    rw [dist_Map.L0_eq, if_pos (by omega), if_pos (by omega), if_pos (by omega), rd32At hx, cloneF _ ho, Option.bind_some, k1, Option.bind_some, if_pos (by omega), w1 (by omega), e]
    exact ih (i + 1) (by omega)
theorem mapF (d : List S32) (ps : List S93) (hp : PBd ps) (hd : Bd d) : plain_Map.F d ps = some (mapP d ps) := by
  rw [plain_Map.F_eq, dist_Map.F_eq, wrongF _ hd, Option.bind_some]
  unfold mapP
  by_cases c : wrongP d = 0
  · rw [if_pos c, if_pos c]
    have h := map_loop ps d hp hd d.length 0 (by omega)
    rw [List.take_zero] at h
    exact h
  · rw [if_neg c, if_neg c]
end Go.Proofs.Ytkemhfhmlcljjaa.DistPure
end
section
namespace Go.Proofs.Ytkemhfhmlcljjaa.DistPure
set_option linter.unusedVariables false
set_option linter.unusedSimpArgs false
open Go.RowKit Go.Proofs.Ytkemhfhmlcljjaa.PP Go.Proofs.YtkemhfhmlcljjaaW.PrintWords Go.Proofs.YtkemhfhmlcljjaaW.PrintLast Go.Proofs.YtkemhfhmlcljjaaW.PrintMore Go.Proofs.YtkemhfhmlcljjaaW.EvKit
theorem isum_le : ∀ (l : List (List Int)) (F G : List Int → Int), (∀ o ∈ l, F o ≤ G o) → isum (l.map F) ≤ isum (l.map G)
  | [], _, _, _ => Int.le_refl _
  | o :: l, F, G, h => by
    have h1 := h o (by simp)
    have h2 := isum_le l F G (fun x hx => h x (by simp [hx]))
    rw [List.map_cons, List.map_cons, isum, isum]
    omega
theorem isum_mulr : ∀ (l : List (List Int)) (F : List Int → Int) (t : Int), isum (l.map (fun o => F o * t)) = isum (l.map F) * t
  | [], _, _ => by simp [isum]
  | o :: l, F, t => by rw [List.map_cons, List.map_cons, isum, isum, isum_mulr l F t, Int.add_mul]
theorem isum_add : ∀ (l : List (List Int)) (F G : List Int → Int), isum (l.map (fun o => F o + G o)) = isum (l.map F) + isum (l.map G)
  | [], _, _ => rfl
  | o :: l, F, G => by rw [List.map_cons, List.map_cons, List.map_cons, isum, isum, isum, isum_add l F G]; omega
theorem isum_sub' (l : List (List Int)) (F G : List Int → Int) : isum (l.map (fun o => F o - G o)) = isum (l.map F) - isum (l.map G) := by
  have h := isum_add l (fun o => F o - G o) G
  have e : (fun o => F o - G o + G o) = F := by funext o; omega
  rw [e] at h
  omega
theorem wOf_at : ∀ {d : List S32}, Strict d → ∀ {p : S32}, p ∈ d → wOf d p.f0 = p.f1
  | q :: d, hs, p, hp => by
    rcases List.mem_cons.1 hp with e | e
    · rw [e]; exact wOf_hit hs
    · have h1 := (List.pairwise_cons.1 hs).1 p e
      rw [wOf_skip (lt_ne h1)]
      exact wOf_at (List.pairwise_cons.1 hs).2 e
def wTo (ps : List S93) (d : List S32) (o' o : List Int) : Int := if toP ps o = o' then wOf d o else 0
theorem wOf_mapL (ps : List S93) {d : List S32} (hs : Strict d) (o' : List Int) : wOf (mapL ps d) o' = isum ((d.map (·.f0)).map (wTo ps d o')) := by
  unfold mapL wOf
  rw [List.map_map, List.map_map]
  congr 1
  refine List.map_congr_left (fun p hp => ?_)
  show (if toP ps p.f0 = o' then p.f1 else 0) = if toP ps p.f0 = o' then wOf d p.f0 else 0
  rw [wOf_at hs hp]
theorem wTo_nn (ps : List S93) {d : List S32} (h : RD d) (o' o : List Int) : 0 ≤ wTo ps d o' o := by
  unfold wTo
  have := (h.wbd o).1
  split <;> omega
theorem wTo_le (ps : List S93) {a b : List S32} (ha : RD a) (hb : RD b) (o' : List Int) : isum ((a.map (·.f0)).map (wTo ps b o')) ≤ wOf (mapL ps b) o' := by
  rw [wOf_mapL ps hb.right.st]
  refine isum_le_sub _ _ _ (wTo_nn ps hb o') (strict_nodup ha.right.st) (fun o ho hne => ?_)
  unfold wTo at hne
  split at hne
  · have h1 := (hb.wbd o).1
    obtain ⟨q, hq, e⟩ := wOf_mem (d := b) (o := o) (by omega)
    exact List.mem_map.2 ⟨q, hq, e⟩
  · exact absurd rfl hne
theorem out_pos {d : List S32} (h : RD d) {o : List Int} (ho : o ∈ d.map (·.f0)) : 0 < wOf d o := by
  obtain ⟨p, hp, rfl⟩ := List.mem_map.1 ho
  rw [wOf_at h.right.st hp]
  exact h.pw p hp
theorem map_le (ps : List S93) {a b : List S32} (ha : RD a) (hb : RD b) {x y : Int} (hy : 0 ≤ y) (h : ∀ o, 0 < wOf a o → wOf a o * x ≤ wOf b o * y) (o' : List Int) : wOf (mapL ps a) o' * x ≤ wOf (mapL ps b) o' * y := by
  have h1 := isum_le (a.map (·.f0)) (fun o => wTo ps a o' o * x) (fun o => wTo ps b o' o * y) (fun o ho => by
    have h2 := h o (out_pos ha ho)
    unfold wTo
    split
    · exact h2
    · simp)
  rw [isum_mulr, isum_mulr, ← wOf_mapL ps ha.right.st] at h1
  have h3 := Int.mul_le_mul_of_nonneg_right (wTo_le ps ha hb o') hy
  omega
theorem map_pos (ps : List S93) {d : List S32} (h : RD d) (o' : List Int) : 0 < wOf (mapL ps d) o' ↔ ∃ o, 0 < wOf d o ∧ toP ps o = o' := by
  constructor
  · intro h0
    obtain ⟨q, hq, e⟩ := wOf_mem h0
    obtain ⟨p, hp, rfl⟩ := List.mem_map.1 hq
    exact ⟨p.f0, out_pos h (List.mem_map.2 ⟨p, hp, rfl⟩), e⟩
  · rintro ⟨o, ho, e⟩
    obtain ⟨p, hp, rfl⟩ := wOf_mem ho
    have hnn : ∀ q ∈ mapL ps d, 0 ≤ q.f1 := fun q hq => by
      obtain ⟨r, hr, rfl⟩ := List.mem_map.1 hq
      exact h.nn r hr
    have h1 := wOf_ge (l := mapL ps d) hnn (List.mem_map.2 ⟨p, hp, rfl⟩ : (⟨toP ps p.f0, p.f1⟩ : S32) ∈ mapL ps d)
    have h2 := h.pw p hp
    dsimp only at h1
    rw [e] at h1
    omega
theorem uv_le {x y : Int} (hx : 0 ≤ x) (hy : 0 ≤ y) {ta tb : Nat} {s : Nat × Nat} : le2 (uv ta tb (x, y)) s ↔ x * ((tb * s.2 : Nat) : Int) ≤ y * ((s.1 * ta : Nat) : Int) := by
  obtain ⟨m, rfl⟩ := Int.eq_ofNat_of_zero_le hx
  obtain ⟨n, rfl⟩ := Int.eq_ofNat_of_zero_le hy
  unfold le2 uv
  dsimp only
  rw [Int.toNat_natCast, Int.toNat_natCast, ← Int.natCast_mul, ← Int.natCast_mul, Int.ofNat_le]
  have e1 : m * tb * s.2 = m * (tb * s.2) := by ac_rfl
  have e2 : s.1 * (n * ta) = n * (s.1 * ta) := by ac_rfl
  rw [e1, e2]
theorem scale_le {x y X Y : Int} {ga gb : Nat} {p q P Q : Int} (hga : 0 < ga) (hgb : 0 < gb) (hx : x * (ga : Int) = X) (hy : y * (gb : Int) = Y) (hp : p * (gb : Int) = P) (hq : q * (ga : Int) = Q) (h : X * P ≤ Y * Q) : x * p ≤ y * q := by
  have hG : (0 : Int) < (ga : Int) * (gb : Int) := Int.mul_pos (by omega) (by omega)
  refine Int.le_of_mul_le_mul_right (a := (ga : Int) * (gb : Int)) ?_ hG
  have e1 : x * p * ((ga : Int) * (gb : Int)) = X * P := by rw [← hx, ← hp]; ac_rfl
  have e2 : y * q * ((ga : Int) * (gb : Int)) = Y * Q := by rw [← hy, ← hq]; ac_rfl
  rw [e1, e2]
  exact h
theorem far_post {a b : List S32} (ha : Bd a) (hb : Bd b) {ps : List S93} (hp : PBd ps) {ta tb : Nat} {s : Nat × Nat} (H : FarOK a b ta tb s) (ea : (makeP (mapL ps a)).2 = 0) (eb : (makeP (mapL ps b)).2 = 0) :
    ∃ ta' tb' s', FarOK (makeP (mapL ps a)).1 (makeP (mapL ps b)).1 ta' tb' s' ∧ farP (makeP (mapL ps a)).1 (makeP (mapL ps b)).1 = farOut s' ∧ le2 s' s := by
  have ba := mapL_bd hp ha
  have bb := mapL_bd hp hb
  obtain ⟨wa, ga, ga0, A1, A2⟩ := make_right ba ea
  obtain ⟨wb, gb, gb0, B1, B2⟩ := make_right bb eb
  have fa := makeP_bd ba
  have fb := makeP_bd bb
  have tA : totOf (mapL ps a) = totOf a := by unfold totOf mapL; rw [List.map_map]; rfl
  have tB : totOf (mapL ps b) = totOf b := by unfold totOf mapL; rw [List.map_map]; rfl
  generalize (makeP (mapL ps a)).1 = x at *
  generalize (makeP (mapL ps b)).1 = y at *
  have hT : Two x y := ⟨⟨fa, wa⟩, ⟨fb, wb⟩⟩
  have pa : ∀ o, 0 < wOf x o ↔ 0 < wOf (mapL ps a) o := fun o => by
    have h1 := (hT.a.wbd o).1
    have e := A1 o
    constructor
    · intro h
      have := Int.mul_pos h (show (0 : Int) < ga by omega)
      omega
    · intro h
      rcases Int.lt_or_eq_of_le h1 with c | c
      · exact c
      · rw [← c, Int.zero_mul] at e; omega
  have pb : ∀ o, 0 < wOf y o ↔ 0 < wOf (mapL ps b) o := fun o => by
    have h1 := (hT.b.wbd o).1
    have e := B1 o
    constructor
    · intro h
      have := Int.mul_pos h (show (0 : Int) < gb by omega)
      omega
    · intro h
      rcases Int.lt_or_eq_of_le h1 with c | c
      · exact c
      · rw [← c, Int.zero_mul] at e; omega
  have both : ∀ o', 0 < wOf x o' ∨ 0 < wOf y o' → 0 < wOf x o' ∧ 0 < wOf y o' := fun o' h => by
    have : ∃ o, (0 < wOf a o ∧ 0 < wOf b o) ∧ toP ps o = o' := by
      rcases h with h | h
      · obtain ⟨o, h1, e⟩ := (map_pos ps H.two.a o').1 ((pa o').1 h)
        exact ⟨o, ⟨h1, (H.at o (.inl h1)).2.1⟩, e⟩
      · obtain ⟨o, h1, e⟩ := (map_pos ps H.two.b o').1 ((pb o').1 h)
        exact ⟨o, ⟨(H.at o (.inr h1)).1, h1⟩, e⟩
    obtain ⟨o, ⟨h1, h2⟩, e⟩ := this
    exact ⟨(pa o').2 ((map_pos ps H.two.a o').2 ⟨o, h1, e⟩), (pb o').2 ((map_pos ps H.two.b o').2 ⟨o, h2, e⟩)⟩
  have hn : ∀ z ∈ pairsL x y, pNo z := fun z hz => by
    obtain ⟨o, ho, rfl⟩ := List.mem_map.1 (hT.perm.mem_iff.1 hz)
    have hpos : 0 < wOf x o ∨ 0 < wOf y o := by
      rcases outs_mem ho with ⟨r, hr, e⟩ | ⟨r, hr, e⟩
      · have := wOf_ge hT.a.nn hr; have := hT.a.pw r hr; rw [e] at *; exact .inl (by omega)
      · have := wOf_ge hT.b.nn hr; have := hT.b.pw r hr; rw [e] at *; exact .inr (by omega)
    obtain ⟨h1, h2⟩ := both o hpos
    exact ⟨fun e => by have e : wOf x o = 0 := e; omega, fun e => by have e : wOf y o = 0 := e; omega⟩
  obtain ⟨ta', tb', s', H', e⟩ := far_mk fa fb wa wb hn
  refine ⟨ta', tb', s', H', e, ?_⟩
  have u1 : ∀ o', le2 (uv ta' tb' (pw x y o')) s := fun o' => by
    refine (uv_le (hT.a.wbd o').1 (hT.b.wbd o').1).2 ?_
    have h0 := map_le ps H.two.a H.two.b (x := ((tb * s.2 : Nat) : Int)) (y := ((s.1 * ta : Nat) : Int)) (by omega) (fun o ho => (uv_le (H.two.a.wbd o).1 (H.two.b.wbd o).1).1 (H.at o (.inl ho)).2.2.1) o'
    refine scale_le ga0 gb0 (A1 o') (B1 o') (P := ((tb * s.2 : Nat) : Int)) (Q := ((s.1 * ta : Nat) : Int)) ?_ ?_ h0
    · rw [Int.natCast_mul, Int.natCast_mul, ← H'.eb, ← H.eb, ← tB, ← B2]; ac_rfl
    · rw [Int.natCast_mul, Int.natCast_mul, ← H'.ea, ← H.ea, ← tA, ← A2]; ac_rfl
  have u2 : ∀ o', le2 (uv ta' tb' (pw x y o')).swap s := fun o' => by
    show le2 (uv tb' ta' (wOf y o', wOf x o')) s
    refine (uv_le (hT.b.wbd o').1 (hT.a.wbd o').1).2 ?_
    have h0 := map_le ps H.two.b H.two.a (x := ((ta * s.2 : Nat) : Int)) (y := ((s.1 * tb : Nat) : Int)) (by omega) (fun o ho => (uv_le (ta := tb) (tb := ta) (H.two.b.wbd o).1 (H.two.a.wbd o).1).1 (H.at o (.inr ho)).2.2.2.1) o'
    refine scale_le gb0 ga0 (B1 o') (A1 o') (P := ((ta * s.2 : Nat) : Int)) (Q := ((s.1 * tb : Nat) : Int)) ?_ ?_ h0
    · rw [Int.natCast_mul, Int.natCast_mul, ← H'.ea, ← H.ea, ← tA, ← A2]; ac_rfl
    · rw [Int.natCast_mul, Int.natCast_mul, ← H'.eb, ← H.eb, ← tB, ← B2]; ac_rfl
  rcases H'.some with c | ⟨o, h1, h2, c⟩
  · exact le2_trans (g := (1, 1)) (Nat.le_refl 1) c H.mx.one
  · have h5 := (H'.at o (.inl h1)).2.2.2.2
    rcases c with c | c
    · exact le2_trans h5.2 c (u1 o)
    · exact le2_trans h5.1 c (u2 o)
theorem isum_zero_of : ∀ (l : List (List Int)) (F : List Int → Int), (∀ o ∈ l, F o = 0) → isum (l.map F) = 0
  | [], _, _ => rfl
  | o :: l, F, h => by rw [List.map_cons, isum, h o (by simp), isum_zero_of l F (fun x hx => h x (by simp [hx]))]; rfl
theorem once (f : List Int → List Int) (T : List Int → Int) (hT : ∀ o, 0 ≤ T o) (o : List Int) : ∀ (L : List (List Int)), L.Nodup → isum (L.map (fun o' => if f o = o' then T o else 0)) ≤ T o
  | [], _ => hT o
  | o' :: L, h => by
    obtain ⟨h1, h2⟩ := List.nodup_cons.1 h
    rw [List.map_cons, isum]
    by_cases c : f o = o'
    · rw [if_pos c, isum_zero_of L _ (fun x hx => if_neg (fun e => h1 (by rw [← c, e]; exact hx)))]
      omega
    · rw [if_neg c]
      have := once f T hT o L h2
      omega
theorem twice (f : List Int → List Int) (T : List Int → Int) (hT : ∀ o, 0 ≤ T o) (L : List (List Int)) (hL : L.Nodup) : ∀ (A : List (List Int)), isum (L.map (fun o' => isum (A.map (fun o => if f o = o' then T o else 0)))) ≤ isum (A.map T)
  | [] => by
    have e := isum_zero_of L (fun o' => isum (([] : List (List Int)).map (fun o => if f o = o' then T o else 0))) (fun _ _ => rfl)
    rw [e]; exact Int.le_refl 0
  | o :: A => by
    have ih := twice f T hT L hL A
    have h1 := once f T hT o L hL
    have e : (fun o' => isum ((o :: A).map (fun o => if f o = o' then T o else 0))) = fun o' => (if f o = o' then T o else 0) + isum (A.map (fun o => if f o = o' then T o else 0)) := by
      funext o'
      rw [List.map_cons, isum]
    rw [e, isum_add, List.map_cons, isum]
    omega
theorem mx_le {x y : Int} (h : x ≤ y) (hy : 0 ≤ y) : mx 0 x ≤ y := by unfold mx; split <;> omega
theorem apart_post {a b : List S32} (ha : Bd a) (hb : Bd b) {ps : List S93} (hp : PBd ps) (h : Two a b) (ea : (makeP (mapL ps a)).2 = 0) (eb : (makeP (mapL ps b)).2 = 0) :
    ∃ G : Int, 0 < G ∧ apSum (makeP (mapL ps a)).1 (makeP (mapL ps b)).1 * G ≤ apSum a b ∧ totOf (makeP (mapL ps a)).1 * totOf (makeP (mapL ps b)).1 * G = totOf a * totOf b := by
  have ba := mapL_bd hp ha
  have bb := mapL_bd hp hb
  obtain ⟨wa, ga, ga0, A1, A2⟩ := make_right ba ea
  obtain ⟨wb, gb, gb0, B1, B2⟩ := make_right bb eb
  have fa := makeP_bd ba
  have fb := makeP_bd bb
  have tA : totOf (mapL ps a) = totOf a := by unfold totOf mapL; rw [List.map_map]; rfl
  have tB : totOf (mapL ps b) = totOf b := by unfold totOf mapL; rw [List.map_map]; rfl
  generalize (makeP (mapL ps a)).1 = x at *
  generalize (makeP (mapL ps b)).1 = y at *
  have hT : Two x y := ⟨⟨fa, wa⟩, ⟨fb, wb⟩⟩
  have t1 := h.tpos
  have hG : (0 : Int) < (ga : Int) * (gb : Int) := Int.mul_pos (by omega) (by omega)
  refine ⟨(ga : Int) * (gb : Int), hG, ?_, by rw [← tA, ← tB, ← A2, ← B2]; ac_rfl⟩
  rw [apSum_a hT, apSum_a h, ← isum_mulr]
  have step : ∀ o', tT x y o' * ((ga : Int) * (gb : Int)) ≤ isum ((a.map (·.f0)).map (fun o => if toP ps o = o' then tT a b o else 0)) := fun o' => by
    have e1 : tT x y o' * ((ga : Int) * (gb : Int)) = mx 0 (wOf (mapL ps a) o' * totOf b - wOf (mapL ps b) o' * totOf a) := by
      rw [tT_is]
      have e2 : (wOf x o' * totOf y - wOf y o' * totOf x) * ((ga : Int) * (gb : Int)) = wOf (mapL ps a) o' * totOf b - wOf (mapL ps b) o' * totOf a := by
        rw [← A1, ← B1, ← tA, ← tB, ← A2, ← B2, Int.sub_mul]
        congr 1 <;> ac_rfl
      rw [← e2]
      generalize wOf x o' * totOf y - wOf y o' * totOf x = z
      unfold mx
      by_cases c : 0 < z
      · rw [if_pos c, if_pos (Int.mul_pos c hG)]
      · have : z * ((ga : Int) * (gb : Int)) ≤ 0 := Int.mul_nonpos_of_nonpos_of_nonneg (by omega) (by omega)
        rw [if_neg c, if_neg (by omega), Int.zero_mul]
    rw [e1]
    have nn : 0 ≤ isum ((a.map (·.f0)).map (fun o => if toP ps o = o' then tT a b o else 0)) := by
      have := isum_le (a.map (·.f0)) (fun _ => 0) (fun o => if toP ps o = o' then tT a b o else 0) (fun o _ => by have := tT_bd h o; split <;> omega)
      rw [isum_zero_of _ _ (fun _ _ => rfl)] at this
      exact this
    refine mx_le ?_ nn
    have h1 := wTo_le ps h.a h.b o'
    have h2 := Int.mul_le_mul_of_nonneg_right h1 (show 0 ≤ totOf a by omega)
    have h3 : wOf (mapL ps a) o' * totOf b - isum ((a.map (·.f0)).map (wTo ps b o')) * totOf a = isum ((a.map (·.f0)).map (fun o => wTo ps a o' o * totOf b - wTo ps b o' o * totOf a)) := by
      rw [isum_sub', isum_mulr, isum_mulr, ← wOf_mapL ps h.a.right.st]
    have h4 := isum_le (a.map (·.f0)) (fun o => wTo ps a o' o * totOf b - wTo ps b o' o * totOf a) (fun o => if toP ps o = o' then tT a b o else 0) (fun o _ => by
      unfold wTo
      split
      · rw [tT_is]; unfold mx; split <;> omega
      · simp)
    omega
  have h5 := isum_le (x.map (·.f0)) (fun o' => tT x y o' * ((ga : Int) * (gb : Int))) (fun o' => isum ((a.map (·.f0)).map (fun o => if toP ps o = o' then tT a b o else 0))) (fun o' _ => step o')
  have h6 := twice (toP ps) (tT a b) (fun o => tT_bd h o) (x.map (·.f0)) (strict_nodup hT.a.right.st) (a.map (·.f0))
  exact Int.le_trans h5 h6
end Go.Proofs.Ytkemhfhmlcljjaa.DistPure
end
section
namespace Go.Proofs.Ytkemhfhmlcljjaa.DistPure
set_option linter.unusedVariables false
set_option linter.unusedSimpArgs false
open Go.RowKit Go.Proofs.Ytkemhfhmlcljjaa.PP Go.Proofs.YtkemhfhmlcljjaaW.PrintWords Go.Proofs.YtkemhfhmlcljjaaW.PrintLast Go.Proofs.YtkemhfhmlcljjaaW.PrintMore Go.Proofs.YtkemhfhmlcljjaaW.EvKit
structure Rt (u d : Int) : Prop where
  u0 : 0 ≤ u
  d1 : 1 ≤ d
  u2 : u ≤ 1073741824
  d2 : d ≤ 1073741824
  co : Int.gcd u d = 1
theorem mul_bd {a b : Int} (ha : 0 ≤ a) (ha' : a ≤ 1073741824) (hb : 0 ≤ b) (hb' : b ≤ 1073741824) : 0 ≤ a * b ∧ a * b ≤ 1152921504606846976 :=
  ⟨Int.mul_nonneg ha hb, by have := Int.mul_le_mul ha' hb' hb (by omega : (0 : Int) ≤ 1073741824); omega⟩
end Go.Proofs.Ytkemhfhmlcljjaa.DistPure
end
section
namespace Go.Proofs.Ytkemhfhmlcljjaa.DistPure
set_option linter.unusedVariables false
set_option linter.unusedSimpArgs false
open Go.RowKit Go.Proofs.Ytkemhfhmlcljjaa.PP Go.Proofs.YtkemhfhmlcljjaaW.PrintWords Go.Proofs.YtkemhfhmlcljjaaW.PrintLast Go.Proofs.YtkemhfhmlcljjaaW.PrintMore Go.Proofs.YtkemhfhmlcljjaaW.EvKit
theorem ones (l : List Int) : (l.map (fun _ => 1)).sum = l.length := by
  induction l with
  | nil => rfl
  | cons a l ih => rw [List.map_cons, List.sum_cons, ih, List.length_cons]; omega
theorem bulk_bd : ∀ (l : List S32), l.length ≤ (l.map (fun z => ((((z.f0.map (fun _ => 1)).sum + 1) + 1) + 1))).sum ∧ ∀ p ∈ l, p.f0.length ≤ (l.map (fun z => ((((z.f0.map (fun _ => 1)).sum + 1) + 1) + 1))).sum
  | [] => ⟨by simp, by simp⟩
  | q :: l => by
    obtain ⟨h1, h2⟩ := bulk_bd l
    rw [List.map_cons, List.sum_cons, ones]
    refine ⟨by rw [List.length_cons]; omega, fun p hp => ?_⟩
    rcases List.mem_cons.1 hp with e | e
    · rw [e]; omega
    · have := h2 p e
      omega
theorem make_three : makeP [(⟨[3], 1⟩ : S32)] = ([⟨[3], 1⟩], 0) := by
  have h1 : tMerge (sortP [(⟨[3], 1⟩ : S32)]) = [⟨[3], 1⟩] := by
    have : sortP [(⟨[3], 1⟩ : S32)] = [⟨[3], 1⟩] := List.mergeSort_singleton _
    rw [this]; rfl
  unfold makeP
  rw [if_pos (by decide), h1]
  rfl
theorem aliveF : hushlaw2_alive.F = some true := by
  have hb : Bd [(⟨[3], 1⟩ : S32)] := ⟨by simp, fun p hp => by rw [List.mem_singleton.1 hp]; simp⟩
  rw [hushlaw2_alive.F_eq, dist_Sure.F_eq, makeF1 _ hb, make_three, Option.bind_some, Option.bind_some]
  rfl
theorem mostF {a b c d : Int} (e w : Int) (h : e = 0 → w = 0 → Rt a b ∧ Rt c d ∧ a * d ≤ c * b) : hushlaw2_most.f a b e c d w = some true := by
  unfold hushlaw2_most.f
  by_cases c1 : e = 0
  · rw [if_pos c1]
    by_cases c2 : w = 0
    · rw [if_pos c2]
      obtain ⟨h1, h2, h3⟩ := h c1 c2
      have m1 := mul_bd h1.u0 h1.u2 (show 0 ≤ d by have := h2.d1; omega) h2.d2
      have m2 := mul_bd h2.u0 h2.u2 (show 0 ≤ b by have := h1.d1; omega) h1.d2
      unfold hushref1_Most.f
      rw [wrap64_of (by omega) (by omega), wrap64_of (by omega) (by omega), Option.bind_some, decide_eq_true h3]
    · rw [if_neg c2]
  · rw [if_neg c1]
theorem far_rt {a b : List S32} {ta tb : Nat} {s : Nat × Nat} (h : FarOK a b ta tb s) (h1 : s.1 ≤ 1073741824) (h2 : s.2 ≤ 1073741824) : Rt (s.1 : Int) (s.2 : Int) :=
  ⟨by omega, by have := h.mx.pos.2; omega, by omega, by omega, h.co⟩
end Go.Proofs.Ytkemhfhmlcljjaa.DistPure
end
section
namespace Go.Proofs.Ytkemhfhmlcljjaa.PP
open Go.RowKit Go.Proofs.YtkemhfhmlcljjaaW.PrintWords Go.Proofs.YtkemhfhmlcljjaaW.PrintLast Go.Proofs.YtkemhfhmlcljjaaW.PrintMore
open Go.Proofs.YtkemhfhmlcljjaaW.EvKit
set_option linter.unusedVariables false
noncomputable def hushlaw2_DistPost.J0 (x0 : List (S32)) (x1 : List (S32)) (x2 : List (S93)) (x8 : Int) (x30 : Bool) (x190000 : Int) (x190001 : Int) : Option (Bool) := lim (fun k => hushlaw2_DistPost.j0 k x0 x1 x2 x8 x30 x190000 x190001)
theorem hushlaw2_DistPost.J0_is (x0 : List (S32)) (x1 : List (S32)) (x2 : List (S93)) (x8 : Int) (x30 : Bool) (x190000 : Int) (x190001 : Int) : LimIs (fun k => hushlaw2_DistPost.j0 k x0 x1 x2 x8 x30 x190000 x190001) (hushlaw2_DistPost.J0 x0 x1 x2 x8 x30 x190000 x190001) := ⟨fun k => (hushlaw2_DistPost.mono_l k).1 x0 x1 x2 x8 x30 x190000 x190001, rfl⟩
noncomputable def hushlaw2_DistPost.J1 (x8 : Int) (x10 : Int) (x11 : List (S32)) (x13 : List (S32)) (x54 : Bool) (x190000 : Int) (x190001 : Int) (x194000 : Int) (x194001 : Int) : Option (Bool) := lim (fun k => hushlaw2_DistPost.j1 k x8 x10 x11 x13 x54 x190000 x190001 x194000 x194001)
theorem hushlaw2_DistPost.J1_is (x8 : Int) (x10 : Int) (x11 : List (S32)) (x13 : List (S32)) (x54 : Bool) (x190000 : Int) (x190001 : Int) (x194000 : Int) (x194001 : Int) : LimIs (fun k => hushlaw2_DistPost.j1 k x8 x10 x11 x13 x54 x190000 x190001 x194000 x194001) (hushlaw2_DistPost.J1 x8 x10 x11 x13 x54 x190000 x190001 x194000 x194001) := ⟨fun k => (hushlaw2_DistPost.mono_l k).2.1 x8 x10 x11 x13 x54 x190000 x190001 x194000 x194001, rfl⟩
noncomputable def hushlaw2_DistPost.J2 (x8 : Int) (x10 : Int) (x12 : Int) (x14 : Int) (x72 : Bool) (x190000 : Int) (x190001 : Int) (x194000 : Int) (x194001 : Int) (x206000 : Int) (x206001 : Int) (x210000 : Int) (x210001 : Int) : Option (Bool) := lim (fun k => hushlaw2_DistPost.j2 k x8 x10 x12 x14 x72 x190000 x190001 x194000 x194001 x206000 x206001 x210000 x210001)
theorem hushlaw2_DistPost.J2_is (x8 : Int) (x10 : Int) (x12 : Int) (x14 : Int) (x72 : Bool) (x190000 : Int) (x190001 : Int) (x194000 : Int) (x194001 : Int) (x206000 : Int) (x206001 : Int) (x210000 : Int) (x210001 : Int) : LimIs (fun k => hushlaw2_DistPost.j2 k x8 x10 x12 x14 x72 x190000 x190001 x194000 x194001 x206000 x206001 x210000 x210001) (hushlaw2_DistPost.J2 x8 x10 x12 x14 x72 x190000 x190001 x194000 x194001 x206000 x206001 x210000 x210001) := ⟨fun k => (hushlaw2_DistPost.mono_l k).2.2 x8 x10 x12 x14 x72 x190000 x190001 x194000 x194001 x206000 x206001 x210000 x210001, rfl⟩
noncomputable def hushlaw2_DistPost.F (l0 : List (S32)) (l1 : List (S32)) (l2 : List (S93)) : Option (Bool) := lim (fun k => hushlaw2_DistPost.f k l0 l1 l2)
theorem hushlaw2_DistPost.F_is (l0 : List (S32)) (l1 : List (S32)) (l2 : List (S93)) : LimIs (fun k => hushlaw2_DistPost.f k l0 l1 l2) (hushlaw2_DistPost.F l0 l1 l2) := ⟨fun k => hushlaw2_DistPost.mono l0 l1 l2 k, rfl⟩
set_option maxRecDepth 100000 in
theorem hushlaw2_DistPost.J0_eq (x0 : List (S32)) (x1 : List (S32)) (x2 : List (S93)) (x8 : Int) (x30 : Bool) (x190000 : Int) (x190001 : Int) : hushlaw2_DistPost.J0 x0 x1 x2 x8 x30 x190000 x190001 = if x30 = true then (some true) else ((dist_Apart.F x0 x1).bind fun bt190 => ((plain_Map.F x0 x2).bind fun bt194 => ((plain_Map.F x1 x2).bind fun bt198 => (if bt194.2 = 0 then (hushlaw2_DistPost.J1 x8 bt190.2.2 bt194.1 bt198.1 (bt198.2 != 0) x190000 x190001 bt190.1 bt190.2.1) else (hushlaw2_DistPost.J1 x8 bt190.2.2 bt194.1 bt198.1 true x190000 x190001 bt190.1 bt190.2.1))))) := by
  refine LimIs.step' (hushlaw2_DistPost.J0_is x0 x1 x2 x8 x30 x190000 x190001).1 (b := fun k => if x30 = true then (some true) else ((dist_Apart.f k x0 x1).bind fun bt190 => ((plain_Map.f k x0 x2).bind fun bt194 => ((plain_Map.f k x1 x2).bind fun bt198 => (if bt194.2 = 0 then (hushlaw2_DistPost.j1 k x8 bt190.2.2 bt194.1 bt198.1 (bt198.2 != 0) x190000 x190001 bt190.1 bt190.2.1) else (hushlaw2_DistPost.j1 k x8 bt190.2.2 bt194.1 bt198.1 true x190000 x190001 bt190.1 bt190.2.1)))))) (fun k => by first | rfl | rw [hushlaw2_DistPost.j0]) ?_
  repeat' first
    | (with_reducible exact dist_Apart.F_is _ _)
    | (with_reducible exact plain_Map.F_is _ _)
    | (with_reducible exact hushlaw2_DistPost.J1_is _ _ _ _ _ _ _ _ _)
    | (with_reducible exact LimIs.const _)
    | (with_reducible refine LimIs.ite ?_ ?_)
    | (with_reducible refine LimIs.bind ?_ (fun _ => ?_))
    | exact dist_Apart.F_is _ _
    | exact plain_Map.F_is _ _
    | exact hushlaw2_DistPost.J1_is _ _ _ _ _ _ _ _ _
    | exact LimIs.const _
    | refine LimIs.ite ?_ ?_
    | refine LimIs.bind ?_ (fun _ => ?_)
set_option maxRecDepth 100000 in
theorem hushlaw2_DistPost.J1_eq (x8 : Int) (x10 : Int) (x11 : List (S32)) (x13 : List (S32)) (x54 : Bool) (x190000 : Int) (x190001 : Int) (x194000 : Int) (x194001 : Int) : hushlaw2_DistPost.J1 x8 x10 x11 x13 x54 x190000 x190001 x194000 x194001 = if x54 = true then (some true) else ((dist_Far.F x11 x13).bind fun bt202 => ((dist_Apart.F x11 x13).bind fun bt206 => (if x8 = 0 then (hushlaw2_DistPost.J2 x8 x10 bt202.2.2 bt206.2.2 (bt202.2.2 == 6) x190000 x190001 x194000 x194001 bt202.1 bt202.2.1 bt206.1 bt206.2.1) else (hushlaw2_DistPost.J2 x8 x10 bt202.2.2 bt206.2.2 false x190000 x190001 x194000 x194001 bt202.1 bt202.2.1 bt206.1 bt206.2.1)))) := by
  refine LimIs.step' (hushlaw2_DistPost.J1_is x8 x10 x11 x13 x54 x190000 x190001 x194000 x194001).1 (b := fun k => if x54 = true then (some true) else ((dist_Far.f k x11 x13).bind fun bt202 => ((dist_Apart.f k x11 x13).bind fun bt206 => (if x8 = 0 then (hushlaw2_DistPost.j2 k x8 x10 bt202.2.2 bt206.2.2 (bt202.2.2 == 6) x190000 x190001 x194000 x194001 bt202.1 bt202.2.1 bt206.1 bt206.2.1) else (hushlaw2_DistPost.j2 k x8 x10 bt202.2.2 bt206.2.2 false x190000 x190001 x194000 x194001 bt202.1 bt202.2.1 bt206.1 bt206.2.1))))) (fun k => by first | rfl | rw [hushlaw2_DistPost.j1]) ?_
  repeat' first
    | (with_reducible exact dist_Far.F_is _ _)
    | (with_reducible exact dist_Apart.F_is _ _)
    | (with_reducible exact hushlaw2_DistPost.J2_is _ _ _ _ _ _ _ _ _ _ _ _ _)
    | (with_reducible exact LimIs.const _)
    | (with_reducible refine LimIs.ite ?_ ?_)
    | (with_reducible refine LimIs.bind ?_ (fun _ => ?_))
    | exact dist_Far.F_is _ _
    | exact dist_Apart.F_is _ _
    | exact hushlaw2_DistPost.J2_is _ _ _ _ _ _ _ _ _ _ _ _ _
    | exact LimIs.const _
    | refine LimIs.ite ?_ ?_
    | refine LimIs.bind ?_ (fun _ => ?_)
set_option maxRecDepth 100000 in
theorem hushlaw2_DistPost.J2_eq (x8 : Int) (x10 : Int) (x12 : Int) (x14 : Int) (x72 : Bool) (x190000 : Int) (x190001 : Int) (x194000 : Int) (x194001 : Int) (x206000 : Int) (x206001 : Int) (x210000 : Int) (x210001 : Int) : hushlaw2_DistPost.J2 x8 x10 x12 x14 x72 x190000 x190001 x194000 x194001 x206000 x206001 x210000 x210001 = if x72 = true then (some false) else ((hushlaw2_most.f x206000 x206001 x12 x190000 x190001 x8).bind fun t210 => (if t210 = true then ((hushlaw2_most.f x210000 x210001 x14 x194000 x194001 x10).bind fun t211 => (some t211)) else (some false))) := by
  refine LimIs.step' (hushlaw2_DistPost.J2_is x8 x10 x12 x14 x72 x190000 x190001 x194000 x194001 x206000 x206001 x210000 x210001).1 (b := fun k => if x72 = true then (some false) else ((hushlaw2_most.f x206000 x206001 x12 x190000 x190001 x8).bind fun t210 => (if t210 = true then ((hushlaw2_most.f x210000 x210001 x14 x194000 x194001 x10).bind fun t211 => (some t211)) else (some false)))) (fun k => by first | rfl | rw [hushlaw2_DistPost.j2]) ?_
  repeat' first
    | (with_reducible exact LimIs.const _)
    | (with_reducible refine LimIs.ite ?_ ?_)
    | (with_reducible refine LimIs.bind ?_ (fun _ => ?_))
    | exact LimIs.const _
    | refine LimIs.ite ?_ ?_
    | refine LimIs.bind ?_ (fun _ => ?_)
set_option maxRecDepth 100000 in
theorem hushlaw2_DistPost.F_eq (l0 : List (S32)) (l1 : List (S32)) (l2 : List (S93)) : hushlaw2_DistPost.F l0 l1 l2 = (hushlaw2_alive.F).bind fun t185 => (if t185 = true then ((dist_Far.F l0 l1).bind fun bt186 => (if bt186.2.2 = 2 then (hushlaw2_DistPost.J0 l0 l1 l2 bt186.2.2 true bt186.1 bt186.2.1) else (hushlaw2_DistPost.J0 l0 l1 l2 bt186.2.2 (bt186.2.2 == 3) bt186.1 bt186.2.1))) else (some false)) := by
  refine LimIs.out (?_ : LimIs (fun k => (hushlaw2_alive.f k).bind fun t185 => (if t185 = true then ((dist_Far.f k l0 l1).bind fun bt186 => (if bt186.2.2 = 2 then (hushlaw2_DistPost.j0 k l0 l1 l2 bt186.2.2 true bt186.1 bt186.2.1) else (hushlaw2_DistPost.j0 k l0 l1 l2 bt186.2.2 (bt186.2.2 == 3) bt186.1 bt186.2.1))) else (some false))) _)
  repeat' first
    | (with_reducible exact hushlaw2_alive.F_is)
    | (with_reducible exact dist_Far.F_is _ _)
    | (with_reducible exact hushlaw2_DistPost.J0_is _ _ _ _ _ _ _)
    | (with_reducible exact LimIs.const _)
    | (with_reducible refine LimIs.ite ?_ ?_)
    | (with_reducible refine LimIs.bind ?_ (fun _ => ?_))
    | exact hushlaw2_alive.F_is
    | exact dist_Far.F_is _ _
    | exact hushlaw2_DistPost.J0_is _ _ _ _ _ _ _
    | exact LimIs.const _
    | refine LimIs.ite ?_ ?_
    | refine LimIs.bind ?_ (fun _ => ?_)
end Go.Proofs.Ytkemhfhmlcljjaa.PP
end
section
namespace Go.Proofs.Ytkemhfhmlcljjaa.DistPure
set_option linter.unusedVariables false
set_option linter.unusedSimpArgs false
open Go.RowKit Go.Proofs.Ytkemhfhmlcljjaa.PP Go.Proofs.YtkemhfhmlcljjaaW.PrintWords Go.Proofs.YtkemhfhmlcljjaaW.PrintLast Go.Proofs.YtkemhfhmlcljjaaW.PrintMore Go.Proofs.YtkemhfhmlcljjaaW.EvKit
theorem bulk_pr : ∀ (l : List S93), l.length ≤ (l.map (fun z => ((((z.f0.map (fun _ => 1)).sum + 1) + ((z.f1.map (fun _ => 1)).sum + 1)) + 1))).sum ∧ ∀ p ∈ l, p.f0.length ≤ (l.map (fun z => ((((z.f0.map (fun _ => 1)).sum + 1) + ((z.f1.map (fun _ => 1)).sum + 1)) + 1))).sum ∧ p.f1.length ≤ (l.map (fun z => ((((z.f0.map (fun _ => 1)).sum + 1) + ((z.f1.map (fun _ => 1)).sum + 1)) + 1))).sum
  | [] => ⟨by simp, by simp⟩
  | q :: l => by
    obtain ⟨h1, h2⟩ := bulk_pr l
    rw [List.map_cons, List.sum_cons, ones, ones]
    refine ⟨by rw [List.length_cons]; omega, fun p hp => ?_⟩
    rcases List.mem_cons.1 hp with e | e
    · rw [e]; omega
    · have := h2 p e
      omega
theorem post_apart {a b : List S32} (ha : Bd a) (hb : Bd b) {ps : List S93} (hp : PBd ps) (ea : (makeP (mapL ps a)).2 = 0) (eb : (makeP (mapL ps b)).2 = 0) (h1 : (apartP (makeP (mapL ps a)).1 (makeP (mapL ps b)).1).2.2 = 0) (h2 : (apartP a b).2.2 = 0) :
    Rt (apartP (makeP (mapL ps a)).1 (makeP (mapL ps b)).1).1 (apartP (makeP (mapL ps a)).1 (makeP (mapL ps b)).1).2.1 ∧ Rt (apartP a b).1 (apartP a b).2.1 ∧ (apartP (makeP (mapL ps a)).1 (makeP (mapL ps b)).1).1 * (apartP a b).2.1 ≤ (apartP a b).1 * (apartP (makeP (mapL ps a)).1 (makeP (mapL ps b)).1).2.1 := by
  have fa := makeP_bd (mapL_bd hp ha)
  have fb := makeP_bd (mapL_bd hp hb)
  obtain ⟨hT, x, y, e, x0, xy, y1, y2, co, eq, _⟩ := apart_yes ha hb h2
  obtain ⟨hT', u, v, e', u0, uv, v1, v2, co', eq', _⟩ := apart_yes fa fb h1
  obtain ⟨G, hG, g1, g2⟩ := apart_post ha hb hp hT ea eb
  rw [e, e']
  dsimp only
  refine ⟨⟨u0, v1, by omega, v2, co'⟩, ⟨x0, y1, by omega, y2, co⟩, ?_⟩
  have t1 := hT.tpos
  have t2 := hT'.tpos
  generalize apSum (makeP (mapL ps a)).1 (makeP (mapL ps b)).1 = S' at *
  generalize apSum a b = S at *
  have hT0 : 0 < totOf a * totOf b := Int.mul_pos (by omega) (by omega)
  refine Int.le_of_mul_le_mul_right (a := totOf a * totOf b) ?_ hT0
  have q1 : u * y * (totOf a * totOf b) = S' * G * (y * v) := by
    rw [← g2]
    have : u * (totOf (makeP (mapL ps a)).1 * totOf (makeP (mapL ps b)).1) = S' * v := eq'
    calc u * y * (totOf (makeP (mapL ps a)).1 * totOf (makeP (mapL ps b)).1 * G) = (u * (totOf (makeP (mapL ps a)).1 * totOf (makeP (mapL ps b)).1)) * (y * G) := by ac_rfl
      _ = S' * v * (y * G) := by rw [this]
      _ = _ := by ac_rfl
  have q2 : x * v * (totOf a * totOf b) = S * (y * v) := by
    calc x * v * (totOf a * totOf b) = (x * (totOf a * totOf b)) * v := by ac_rfl
      _ = S * y * v := by rw [eq]
      _ = _ := by ac_rfl
  rw [q1, q2]
  exact Int.mul_le_mul_of_nonneg_right g1 (Int.mul_nonneg (by omega) (by omega))
end Go.Proofs.Ytkemhfhmlcljjaa.DistPure
namespace Go.Proofs.Ytkemhfhmlcljjaa.Pure
open Go.RowKit Go.Proofs.Ytkemhfhmlcljjaa.PP Go.Proofs.YtkemhfhmlcljjaaW.PrintWords Go.Proofs.YtkemhfhmlcljjaaW.PrintLast Go.Proofs.YtkemhfhmlcljjaaW.PrintMore Go.Proofs.YtkemhfhmlcljjaaW.EvKit Go.Proofs.Ytkemhfhmlcljjaa.DistPure
theorem DistPost : hushlaw2_DistPost.Pure := by
  intro a b ps h0 h1 h2 hk
  have b1 := bulk_bd a
  have b2 := bulk_bd b
  have b3 := bulk_pr ps
  have ha : Bd a := ⟨by omega, fun p hp => by have := b1.2 p hp; omega⟩
  have hb : Bd b := ⟨by omega, fun p hp => by have := b2.2 p hp; omega⟩
  have hp : PBd ps := ⟨by omega, fun p hp => by have := (b3.2 p hp).1; omega, fun p hp => by have := (b3.2 p hp).2; omega⟩
  clear hk b1 b2 b3 h0 h1 h2
  refine (hushlaw2_DistPost.F_is a b ps).rounds ?_
  have j0 : ∀ x8 u v, hushlaw2_DistPost.J0 a b ps x8 true u v = some true := fun x8 u v => by rw [hushlaw2_DistPost.J0_eq, if_pos rfl]
  have j1 : ∀ x8 x10 x11 x13 u v p q, hushlaw2_DistPost.J1 x8 x10 x11 x13 true u v p q = some true := fun x8 x10 x11 x13 u v p q => by rw [hushlaw2_DistPost.J1_eq, if_pos rfl]
  rw [hushlaw2_DistPost.F_eq, aliveF, Option.bind_some, if_pos rfl, farF a b ha hb, Option.bind_some]
  by_cases c1 : (farP a b).2.2 = 2
  · rw [if_pos c1, j0]
  rw [if_neg c1]
  by_cases c2 : (farP a b).2.2 = 3
  · rw [show ((farP a b).2.2 == 3) = true from beq_iff_eq.2 c2, j0]
  rw [show ((farP a b).2.2 == 3) = false from beq_eq_false_iff_ne.2 c2, hushlaw2_DistPost.J0_eq, if_neg (by decide), apartF a b ha hb, Option.bind_some, mapF a ps hp ha, Option.bind_some, mapF b ps hp hb, Option.bind_some]
  by_cases c3 : (mapP a ps).2 = 0
  · rw [if_pos c3]
    by_cases c4 : (mapP b ps).2 = 0
    · have wa : wrongP a = 0 := by
        unfold mapP at c3
        split at c3
        · assumption
        · exact c3
      have wb : wrongP b = 0 := by
        unfold mapP at c4
        split at c4
        · assumption
        · exact c4
      have ma : mapP a ps = makeP (mapL ps a) := by unfold mapP; rw [if_pos wa]
      have mb : mapP b ps = makeP (mapL ps b) := by unfold mapP; rw [if_pos wb]
      rw [ma] at c3 ⊢
      rw [mb] at c4 ⊢
      have fa := makeP_bd (mapL_bd hp ha)
      have fb := makeP_bd (mapL_bd hp hb)
      have hap := post_apart ha hb hp c3 c4
      rw [show ((makeP (mapL ps b)).2 != 0) = false from by rw [c4]; rfl, hushlaw2_DistPost.J1_eq, if_neg (by decide), farF _ _ fa fb, Option.bind_some, apartF _ _ fa fb, Option.bind_some]
      have m2 := mostF (a := (apartP (makeP (mapL ps a)).1 (makeP (mapL ps b)).1).1) (b := (apartP (makeP (mapL ps a)).1 (makeP (mapL ps b)).1).2.1) (c := (apartP a b).1) (d := (apartP a b).2.1) (apartP (makeP (mapL ps a)).1 (makeP (mapL ps b)).1).2.2 (apartP a b).2.2 hap
      by_cases c5 : (farP a b).2.2 = 0
      · obtain ⟨ta, tb, s, H, e, s1, s2⟩ := far_yes ha hb c5
        obtain ⟨ta', tb', s', H', e', hle⟩ := far_post ha hb hp H c3 c4
        have n6 : ((farP (makeP (mapL ps a)).1 (makeP (mapL ps b)).1).2.2 == 6) = false := by
          rw [e']
          unfold farOut
          split <;> rfl
        have m1 : hushlaw2_most.f (farP (makeP (mapL ps a)).1 (makeP (mapL ps b)).1).1 (farP (makeP (mapL ps a)).1 (makeP (mapL ps b)).1).2.1 (farP (makeP (mapL ps a)).1 (makeP (mapL ps b)).1).2.2 (farP a b).1 (farP a b).2.1 (farP a b).2.2 = some true := by
          refine mostF _ _ (fun x1 x2 => ?_)
          rw [e'] at x1 ⊢
          obtain ⟨y1, y2, y3⟩ := farOut_ok x1
          rw [y1, e]
          refine ⟨far_rt H' y2 y3, far_rt H s1 s2, ?_⟩
          unfold le2 at hle
          show (s'.1 : Int) * (s.2 : Int) ≤ (s.1 : Int) * (s'.2 : Int)
          rw [← Int.natCast_mul, ← Int.natCast_mul]
          omega
        rw [if_pos c5, n6, hushlaw2_DistPost.J2_eq, if_neg (by decide), m1, Option.bind_some, if_pos rfl, m2, Option.bind_some]
      · have m1 : hushlaw2_most.f (farP (makeP (mapL ps a)).1 (makeP (mapL ps b)).1).1 (farP (makeP (mapL ps a)).1 (makeP (mapL ps b)).1).2.1 (farP (makeP (mapL ps a)).1 (makeP (mapL ps b)).1).2.2 (farP a b).1 (farP a b).2.1 (farP a b).2.2 = some true := mostF _ _ (fun _ x2 => absurd x2 c5)
        rw [if_neg c5, hushlaw2_DistPost.J2_eq, if_neg (by decide), m1, Option.bind_some, if_pos rfl, m2, Option.bind_some]
    · rw [show ((mapP b ps).2 != 0) = true from bne_iff_ne.2 c4, j1]
  · rw [if_neg c3, j1]
end Go.Proofs.Ytkemhfhmlcljjaa.Pure
end

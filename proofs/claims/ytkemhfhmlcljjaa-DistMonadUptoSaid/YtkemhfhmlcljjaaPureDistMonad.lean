/- The pure texts of this claim, its functions behind all rounds among them, and small steps. Conditions stand in each theorem. -/
import Derived.Test.YtkemhfhmlcljjaaPQx6
import Derived.Test.YtkemhfhmlcljjaaLim
import Derived.Test.YtkemhfhmlcljjaaPQx0
import Derived.Test.YtkemhfhmlcljjaaPQx5
import Derived.Test.YtkemhfhmlcljjaaPQx2
import Derived.Test.YtkemhfhmlcljjaaPQx4
import Derived.Test.YtkemhfhmlcljjaaPQx3
import Derived.Test.YtkemhfhmlcljjaaPQx8
import Derived.Test.YtkemhfhmlcljjaaPQx7
import Derived.Test.YtkemhfhmlcljjaaPQx1
import Derived.Test.YtkemhfhmlcljjaaPQx9
import Derived.Test.YtkemhfhmlcljjaaPQx10
section
namespace Go.Proofs.Ytkemhfhmlcljjaa.PQ
open Go.RowKit Go.Proofs.YtkemhfhmlcljjaaW.PrintWords Go.Proofs.YtkemhfhmlcljjaaW.PrintLast Go.Proofs.YtkemhfhmlcljjaaW.PrintMore
open Go.Proofs.YtkemhfhmlcljjaaW.EvKit
set_option linter.unusedVariables false
end Go.Proofs.Ytkemhfhmlcljjaa.PQ
end
section
namespace Go.Proofs.Ytkemhfhmlcljjaa.PQ
open Go.RowKit Go.Proofs.YtkemhfhmlcljjaaW.PrintWords Go.Proofs.YtkemhfhmlcljjaaW.PrintLast Go.Proofs.YtkemhfhmlcljjaaW.PrintMore
open Go.Proofs.YtkemhfhmlcljjaaW.EvKit
set_option linter.unusedVariables false
noncomputable def slices_IndexFunc_int_int.L0 (x0 : List Int) (x7 : Int) (x8 : Int) : Option (Int) := lim (fun k => slices_IndexFunc_int_int.l0 k x0 x7 x8)
theorem slices_IndexFunc_int_int.L0_is (x0 : List Int) (x7 : Int) (x8 : Int) : LimIs (fun k => slices_IndexFunc_int_int.l0 k x0 x7 x8) (slices_IndexFunc_int_int.L0 x0 x7 x8) := ⟨fun k => (slices_IndexFunc_int_int.mono_l k) x0 x7 x8, rfl⟩
noncomputable def slices_Equal_int_int.L0 (x0 : List Int) (x1 : List Int) (x12 : Int) (x13 : Int) : Option (Bool) := lim (fun k => slices_Equal_int_int.l0 k x0 x1 x12 x13)
theorem slices_Equal_int_int.L0_is (x0 : List Int) (x1 : List Int) (x12 : Int) (x13 : Int) : LimIs (fun k => slices_Equal_int_int.l0 k x0 x1 x12 x13) (slices_Equal_int_int.L0 x0 x1 x12 x13) := ⟨fun k => (slices_Equal_int_int.mono_l k) x0 x1 x12 x13, rfl⟩
noncomputable def slices_IndexFunc_int_int.F (l0 : List Int) (a1 : Int) : Option (Int) := lim (fun k => slices_IndexFunc_int_int.f k l0 a1)
theorem slices_IndexFunc_int_int.F_is (l0 : List Int) (a1 : Int) : LimIs (fun k => slices_IndexFunc_int_int.f k l0 a1) (slices_IndexFunc_int_int.F l0 a1) := ⟨fun k => slices_IndexFunc_int_int.mono l0 a1 k, rfl⟩
noncomputable def slices_ContainsFunc_int_int.F (l0 : List Int) (a1 : Int) : Option (Bool) := lim (fun k => slices_ContainsFunc_int_int.f k l0 a1)
theorem slices_ContainsFunc_int_int.F_is (l0 : List Int) (a1 : Int) : LimIs (fun k => slices_ContainsFunc_int_int.f k l0 a1) (slices_ContainsFunc_int_int.F l0 a1) := ⟨fun k => slices_ContainsFunc_int_int.mono l0 a1 k, rfl⟩
noncomputable def dist_small.F (l0 : List Int) : Option (Bool) := lim (fun k => dist_small.f k l0)
theorem dist_small.F_is (l0 : List Int) : LimIs (fun k => dist_small.f k l0) (dist_small.F l0) := ⟨fun k => dist_small.mono l0 k, rfl⟩
noncomputable def slices_Equal_int_int.F (l0 : List Int) (l1 : List Int) : Option (Bool) := lim (fun k => slices_Equal_int_int.f k l0 l1)
theorem slices_Equal_int_int.F_is (l0 : List Int) (l1 : List Int) : LimIs (fun k => slices_Equal_int_int.f k l0 l1) (slices_Equal_int_int.F l0 l1) := ⟨fun k => slices_Equal_int_int.mono l0 l1 k, rfl⟩
set_option maxRecDepth 100000 in
theorem slices_IndexFunc_int_int.L0_eq (x0 : List Int) (x7 : Int) (x8 : Int) : slices_IndexFunc_int_int.L0 x0 x7 x8 = if x8 < x7 then (if 0 ≤ x8 then (if x8 < (x0.length : Int) then ((dist_small_1.f (rd x0 x8)).bind fun t111 => (if t111 = true then (some x8) else (slices_IndexFunc_int_int.L0 x0 x7 (wrap64 (x8 + 1))))) else (none)) else (none)) else (some (-1)) := by
  refine LimIs.step' (slices_IndexFunc_int_int.L0_is x0 x7 x8).1 (b := fun k => if x8 < x7 then (if 0 ≤ x8 then (if x8 < (x0.length : Int) then ((dist_small_1.f (rd x0 x8)).bind fun t111 => (if t111 = true then (some x8) else (slices_IndexFunc_int_int.l0 k x0 x7 (wrap64 (x8 + 1))))) else (none)) else (none)) else (some (-1))) (fun k => by first | rfl | rw [slices_IndexFunc_int_int.l0]) ?_
  repeat' first
    | (with_reducible exact slices_IndexFunc_int_int.L0_is _ _ _)
    | (with_reducible exact LimIs.const _)
    | (with_reducible refine LimIs.ite ?_ ?_)
    | (with_reducible refine LimIs.bind ?_ (fun _ => ?_))
    | exact slices_IndexFunc_int_int.L0_is _ _ _
    | exact LimIs.const _
    | refine LimIs.ite ?_ ?_
    | refine LimIs.bind ?_ (fun _ => ?_)
set_option maxRecDepth 100000 in
theorem slices_Equal_int_int.L0_eq (x0 : List Int) (x1 : List Int) (x12 : Int) (x13 : Int) : slices_Equal_int_int.L0 x0 x1 x12 x13 = if x13 < x12 then (if 0 ≤ x13 then (if x13 < (x0.length : Int) then (if x13 < (x1.length : Int) then (if (rd x0 x13) = (rd x1 x13) then (slices_Equal_int_int.L0 x0 x1 x12 (wrap64 (x13 + 1))) else (some false)) else (none)) else (none)) else (none)) else (some true) := by
  refine LimIs.step' (slices_Equal_int_int.L0_is x0 x1 x12 x13).1 (b := fun k => if x13 < x12 then (if 0 ≤ x13 then (if x13 < (x0.length : Int) then (if x13 < (x1.length : Int) then (if (rd x0 x13) = (rd x1 x13) then (slices_Equal_int_int.l0 k x0 x1 x12 (wrap64 (x13 + 1))) else (some false)) else (none)) else (none)) else (none)) else (some true)) (fun k => by first | rfl | rw [slices_Equal_int_int.l0]) ?_
  repeat' first
    | (with_reducible exact slices_Equal_int_int.L0_is _ _ _ _)
    | (with_reducible exact LimIs.const _)
    | (with_reducible refine LimIs.ite ?_ ?_)
    | (with_reducible refine LimIs.bind ?_ (fun _ => ?_))
    | exact slices_Equal_int_int.L0_is _ _ _ _
    | exact LimIs.const _
    | refine LimIs.ite ?_ ?_
    | refine LimIs.bind ?_ (fun _ => ?_)
set_option maxRecDepth 100000 in
theorem slices_IndexFunc_int_int.F_eq (l0 : List Int) (a1 : Int) : slices_IndexFunc_int_int.F l0 a1 = slices_IndexFunc_int_int.L0 l0 (l0.length : Int) 0 := by
  refine LimIs.out (?_ : LimIs (fun k => slices_IndexFunc_int_int.l0 k l0 (l0.length : Int) 0) _)
  repeat' first
    | (with_reducible exact slices_IndexFunc_int_int.L0_is _ _ _)
    | (with_reducible exact LimIs.const _)
    | (with_reducible refine LimIs.ite ?_ ?_)
    | (with_reducible refine LimIs.bind ?_ (fun _ => ?_))
    | exact slices_IndexFunc_int_int.L0_is _ _ _
    | exact LimIs.const _
    | refine LimIs.ite ?_ ?_
    | refine LimIs.bind ?_ (fun _ => ?_)
set_option maxRecDepth 100000 in
theorem slices_ContainsFunc_int_int.F_eq (l0 : List Int) (a1 : Int) : slices_ContainsFunc_int_int.F l0 a1 = (slices_IndexFunc_int_int.F l0 a1).bind fun t112 => (some (decide (t112 ≥ 0))) := by
  refine LimIs.out (?_ : LimIs (fun k => (slices_IndexFunc_int_int.f k l0 a1).bind fun t112 => (some (decide (t112 ≥ 0)))) _)
  repeat' first
    | (with_reducible exact slices_IndexFunc_int_int.F_is _ _)
    | (with_reducible exact LimIs.const _)
    | (with_reducible refine LimIs.ite ?_ ?_)
    | (with_reducible refine LimIs.bind ?_ (fun _ => ?_))
    | exact slices_IndexFunc_int_int.F_is _ _
    | exact LimIs.const _
    | refine LimIs.ite ?_ ?_
    | refine LimIs.bind ?_ (fun _ => ?_)
set_option maxRecDepth 100000 in
theorem dist_small.F_eq (l0 : List Int) : dist_small.F l0 = if (l0.length : Int) ≤ 16 then ((slices_ContainsFunc_int_int.F l0 990000076).bind fun t113 => (some (!t113))) else (some false) := by
  refine LimIs.out (?_ : LimIs (fun k => if (l0.length : Int) ≤ 16 then ((slices_ContainsFunc_int_int.f k l0 990000076).bind fun t113 => (some (!t113))) else (some false)) _)
  repeat' first
    | (with_reducible exact slices_ContainsFunc_int_int.F_is _ _)
    | (with_reducible exact LimIs.const _)
    | (with_reducible refine LimIs.ite ?_ ?_)
    | (with_reducible refine LimIs.bind ?_ (fun _ => ?_))
    | exact slices_ContainsFunc_int_int.F_is _ _
    | exact LimIs.const _
    | refine LimIs.ite ?_ ?_
    | refine LimIs.bind ?_ (fun _ => ?_)
set_option maxRecDepth 100000 in
theorem slices_Equal_int_int.F_eq (l0 : List Int) (l1 : List Int) : slices_Equal_int_int.F l0 l1 = if (l0.length : Int) = (l1.length : Int) then (slices_Equal_int_int.L0 l0 l1 (l0.length : Int) 0) else (some false) := by
  refine LimIs.out (?_ : LimIs (fun k => if (l0.length : Int) = (l1.length : Int) then (slices_Equal_int_int.l0 k l0 l1 (l0.length : Int) 0) else (some false)) _)
  repeat' first
    | (with_reducible exact slices_Equal_int_int.L0_is _ _ _ _)
    | (with_reducible exact LimIs.const _)
    | (with_reducible refine LimIs.ite ?_ ?_)
    | (with_reducible refine LimIs.bind ?_ (fun _ => ?_))
    | exact slices_Equal_int_int.L0_is _ _ _ _
    | exact LimIs.const _
    | refine LimIs.ite ?_ ?_
    | refine LimIs.bind ?_ (fun _ => ?_)
end Go.Proofs.Ytkemhfhmlcljjaa.PQ
end
section
namespace Go.Proofs.Ytkemhfhmlcljjaa.PQ
open Go.RowKit Go.Proofs.YtkemhfhmlcljjaaW.PrintWords Go.Proofs.YtkemhfhmlcljjaaW.PrintLast Go.Proofs.YtkemhfhmlcljjaaW.PrintMore
open Go.Proofs.YtkemhfhmlcljjaaW.EvKit
set_option linter.unusedVariables false
noncomputable def dist_total.L0 (x3 : Int) (x6 : List (S32)) (x7 : Int) (x8 : Int) : Option (Int) := lim (fun k => dist_total.l0 k x3 x6 x7 x8)
theorem dist_total.L0_is (x3 : Int) (x6 : List (S32)) (x7 : Int) (x8 : Int) : LimIs (fun k => dist_total.l0 k x3 x6 x7 x8) (dist_total.L0 x3 x6 x7 x8) := ⟨fun k => (dist_total.mono_l k) x3 x6 x7 x8, rfl⟩
noncomputable def dist_gcd.L0 (x0 : Int) (x1 : Int) : Option (Int) := lim (fun k => dist_gcd.l0 k x0 x1)
theorem dist_gcd.L0_is (x0 : Int) (x1 : Int) : LimIs (fun k => dist_gcd.l0 k x0 x1) (dist_gcd.L0 x0 x1) := ⟨fun k => (dist_gcd.mono_l k) x0 x1, rfl⟩
noncomputable def slices_Compare_int_int.L0 (x0 : List Int) (x1 : List Int) (x9 : List Int) (x10 : Int) (x11 : Int) : Option (Int) := lim (fun k => slices_Compare_int_int.l0 k x0 x1 x9 x10 x11)
theorem slices_Compare_int_int.L0_is (x0 : List Int) (x1 : List Int) (x9 : List Int) (x10 : Int) (x11 : Int) : LimIs (fun k => slices_Compare_int_int.l0 k x0 x1 x9 x10 x11) (slices_Compare_int_int.L0 x0 x1 x9 x10 x11) := ⟨fun k => (slices_Compare_int_int.mono_l k) x0 x1 x9 x10 x11, rfl⟩
noncomputable def dist_total.F (l0 : List (S32)) : Option (Int) := lim (fun k => dist_total.f k l0)
theorem dist_total.F_is (l0 : List (S32)) : LimIs (fun k => dist_total.f k l0) (dist_total.F l0) := ⟨fun k => dist_total.mono l0 k, rfl⟩
noncomputable def dist_gcd.F (a0 : Int) (a1 : Int) : Option (Int) := lim (fun k => dist_gcd.f k a0 a1)
theorem dist_gcd.F_is (a0 : Int) (a1 : Int) : LimIs (fun k => dist_gcd.f k a0 a1) (dist_gcd.F a0 a1) := ⟨fun k => dist_gcd.mono a0 a1 k, rfl⟩
noncomputable def slices_Compare_int_int.F (l0 : List Int) (l1 : List Int) : Option (Int) := lim (fun k => slices_Compare_int_int.f k l0 l1)
theorem slices_Compare_int_int.F_is (l0 : List Int) (l1 : List Int) : LimIs (fun k => slices_Compare_int_int.f k l0 l1) (slices_Compare_int_int.F l0 l1) := ⟨fun k => slices_Compare_int_int.mono l0 l1 k, rfl⟩
set_option maxRecDepth 100000 in
theorem dist_total.L0_eq (x3 : Int) (x6 : List (S32)) (x7 : Int) (x8 : Int) : dist_total.L0 x3 x6 x7 x8 = if x8 < x7 then (if 0 ≤ x8 then (if x8 < (x6.length : Int) then (dist_total.L0 (wrap64 (x3 + ((rd_T32 x6 x8).f1))) x6 x7 (wrap64 (x8 + 1))) else (none)) else (none)) else (some x3) := by
  refine LimIs.step' (dist_total.L0_is x3 x6 x7 x8).1 (b := fun k => if x8 < x7 then (if 0 ≤ x8 then (if x8 < (x6.length : Int) then (dist_total.l0 k (wrap64 (x3 + ((rd_T32 x6 x8).f1))) x6 x7 (wrap64 (x8 + 1))) else (none)) else (none)) else (some x3)) (fun k => by first | rfl | rw [dist_total.l0]) ?_
  repeat' first
    | (with_reducible exact dist_total.L0_is _ _ _ _)
    | (with_reducible exact LimIs.const _)
    | (with_reducible refine LimIs.ite ?_ ?_)
    | (with_reducible refine LimIs.bind ?_ (fun _ => ?_))
    | exact dist_total.L0_is _ _ _ _
    | exact LimIs.const _
    | refine LimIs.ite ?_ ?_
    | refine LimIs.bind ?_ (fun _ => ?_)
set_option maxRecDepth 100000 in
theorem dist_gcd.L0_eq (x0 : Int) (x1 : Int) : dist_gcd.L0 x0 x1 = if x1 = 0 then (some x0) else (dist_gcd.L0 x1 (Int.tmod x0 x1)) := by
  refine LimIs.step' (dist_gcd.L0_is x0 x1).1 (b := fun k => if x1 = 0 then (some x0) else (dist_gcd.l0 k x1 (Int.tmod x0 x1))) (fun k => by first | rfl | rw [dist_gcd.l0]) ?_
  repeat' first
    | (with_reducible exact dist_gcd.L0_is _ _)
    | (with_reducible exact LimIs.const _)
    | (with_reducible refine LimIs.ite ?_ ?_)
    | (with_reducible refine LimIs.bind ?_ (fun _ => ?_))
    | exact dist_gcd.L0_is _ _
    | exact LimIs.const _
    | refine LimIs.ite ?_ ?_
    | refine LimIs.bind ?_ (fun _ => ?_)
set_option maxRecDepth 100000 in
theorem slices_Compare_int_int.L0_eq (x0 : List Int) (x1 : List Int) (x9 : List Int) (x10 : Int) (x11 : Int) : slices_Compare_int_int.L0 x0 x1 x9 x10 x11 = if x11 < x10 then (if 0 ≤ x11 then (if x11 < (x9.length : Int) then (if x11 ≥ (x1.length : Int) then (some 1) else (if x11 < (x1.length : Int) then ((cmp_Compare_int.f (rd x9 x11) (rd x1 x11)).bind fun t122 => (if t122 = 0 then (slices_Compare_int_int.L0 x0 x1 x9 x10 (wrap64 (x11 + 1))) else (some t122))) else (none))) else (none)) else (none)) else (if (x0.length : Int) < (x1.length : Int) then (some (-1)) else (some 0)) := by
  refine LimIs.step' (slices_Compare_int_int.L0_is x0 x1 x9 x10 x11).1 (b := fun k => if x11 < x10 then (if 0 ≤ x11 then (if x11 < (x9.length : Int) then (if x11 ≥ (x1.length : Int) then (some 1) else (if x11 < (x1.length : Int) then ((cmp_Compare_int.f (rd x9 x11) (rd x1 x11)).bind fun t122 => (if t122 = 0 then (slices_Compare_int_int.l0 k x0 x1 x9 x10 (wrap64 (x11 + 1))) else (some t122))) else (none))) else (none)) else (none)) else (if (x0.length : Int) < (x1.length : Int) then (some (-1)) else (some 0))) (fun k => by first | rfl | rw [slices_Compare_int_int.l0]) ?_
  repeat' first
    | (with_reducible exact slices_Compare_int_int.L0_is _ _ _ _ _)
    | (with_reducible exact LimIs.const _)
    | (with_reducible refine LimIs.ite ?_ ?_)
    | (with_reducible refine LimIs.bind ?_ (fun _ => ?_))
    | exact slices_Compare_int_int.L0_is _ _ _ _ _
    | exact LimIs.const _
    | refine LimIs.ite ?_ ?_
    | refine LimIs.bind ?_ (fun _ => ?_)
set_option maxRecDepth 100000 in
theorem dist_total.F_eq (l0 : List (S32)) : dist_total.F l0 = dist_total.L0 0 l0 (l0.length : Int) 0 := by
  refine LimIs.out (?_ : LimIs (fun k => dist_total.l0 k 0 l0 (l0.length : Int) 0) _)
  repeat' first
    | (with_reducible exact dist_total.L0_is _ _ _ _)
    | (with_reducible exact LimIs.const _)
    | (with_reducible refine LimIs.ite ?_ ?_)
    | (with_reducible refine LimIs.bind ?_ (fun _ => ?_))
    | exact dist_total.L0_is _ _ _ _
    | exact LimIs.const _
    | refine LimIs.ite ?_ ?_
    | refine LimIs.bind ?_ (fun _ => ?_)
set_option maxRecDepth 100000 in
theorem dist_gcd.F_eq (a0 : Int) (a1 : Int) : dist_gcd.F a0 a1 = dist_gcd.L0 a0 a1 := by
  refine LimIs.out (?_ : LimIs (fun k => dist_gcd.l0 k a0 a1) _)
  repeat' first
    | (with_reducible exact dist_gcd.L0_is _ _)
    | (with_reducible exact LimIs.const _)
    | (with_reducible refine LimIs.ite ?_ ?_)
    | (with_reducible refine LimIs.bind ?_ (fun _ => ?_))
    | exact dist_gcd.L0_is _ _
    | exact LimIs.const _
    | refine LimIs.ite ?_ ?_
    | refine LimIs.bind ?_ (fun _ => ?_)
set_option maxRecDepth 100000 in
theorem slices_Compare_int_int.F_eq (l0 : List Int) (l1 : List Int) : slices_Compare_int_int.F l0 l1 = slices_Compare_int_int.L0 l0 l1 l0 (l0.length : Int) 0 := by
  refine LimIs.out (?_ : LimIs (fun k => slices_Compare_int_int.l0 k l0 l1 l0 (l0.length : Int) 0) _)
  repeat' first
    | (with_reducible exact slices_Compare_int_int.L0_is _ _ _ _ _)
    | (with_reducible exact LimIs.const _)
    | (with_reducible refine LimIs.ite ?_ ?_)
    | (with_reducible refine LimIs.bind ?_ (fun _ => ?_))
    | exact slices_Compare_int_int.L0_is _ _ _ _ _
    | exact LimIs.const _
    | refine LimIs.ite ?_ ?_
    | refine LimIs.bind ?_ (fun _ => ?_)
end Go.Proofs.Ytkemhfhmlcljjaa.PQ
end
section
namespace Go.Proofs.Ytkemhfhmlcljjaa.PQ
open Go.RowKit Go.Proofs.YtkemhfhmlcljjaaW.PrintWords Go.Proofs.YtkemhfhmlcljjaaW.PrintLast Go.Proofs.YtkemhfhmlcljjaaW.PrintMore
open Go.Proofs.YtkemhfhmlcljjaaW.EvKit
set_option linter.unusedVariables false
noncomputable def dist_tidy.F (l0 : List S32) : Option (List S32 × Int) := lim (fun k => dist_tidy.f k l0)
theorem dist_tidy.F_is (l0 : List S32) : LimIs (fun k => dist_tidy.f k l0) (dist_tidy.F l0) := ⟨fun k => dist_tidy.mono l0 k, rfl⟩
set_option maxRecDepth 100000 in
theorem dist_tidy.F_eq (l0 : List S32) : dist_tidy.F l0 = if tGuard l0 = true then some (tDone (tMerge (sortP l0))) else none := by
  refine LimIs.out (?_ : LimIs (fun k => if tGuard l0 = true then some (tDone (tMerge (sortP l0))) else none) _)
  repeat' first
    | (with_reducible exact LimIs.const _)
    | (with_reducible refine LimIs.ite ?_ ?_)
    | (with_reducible refine LimIs.bind ?_ (fun _ => ?_))
    | exact LimIs.const _
    | refine LimIs.ite ?_ ?_
    | refine LimIs.bind ?_ (fun _ => ?_)
end Go.Proofs.Ytkemhfhmlcljjaa.PQ
end
section
namespace Go.Proofs.Ytkemhfhmlcljjaa.PQ
open Go.RowKit Go.Proofs.YtkemhfhmlcljjaaW.PrintWords Go.Proofs.YtkemhfhmlcljjaaW.PrintLast Go.Proofs.YtkemhfhmlcljjaaW.PrintMore
open Go.Proofs.YtkemhfhmlcljjaaW.EvKit
set_option linter.unusedVariables false
noncomputable def dist_Make.L0 (x4 : List (S32)) (x7 : List (S32)) (x8 : Int) (x9 : Int) : Option ((List (S32)) × Int) := lim (fun k => dist_Make.l0 k x4 x7 x8 x9)
theorem dist_Make.L0_is (x4 : List (S32)) (x7 : List (S32)) (x8 : Int) (x9 : Int) : LimIs (fun k => dist_Make.l0 k x4 x7 x8 x9) (dist_Make.L0 x4 x7 x8 x9) := ⟨fun k => (dist_Make.mono_l k) x4 x7 x8 x9, rfl⟩
noncomputable def dist_Make.F (l0 : List (S32)) : Option ((List (S32)) × Int) := lim (fun k => dist_Make.f k l0)
theorem dist_Make.F_is (l0 : List (S32)) : LimIs (fun k => dist_Make.f k l0) (dist_Make.F l0) := ⟨fun k => dist_Make.mono l0 k, rfl⟩
noncomputable def dist_same_1.F (l0_0 : List Int) (a0_1 : Int) (l1_0 : List Int) (a1_1 : Int) : Option (Bool) := lim (fun k => dist_same_1.f k l0_0 a0_1 l1_0 a1_1)
theorem dist_same_1.F_is (l0_0 : List Int) (a0_1 : Int) (l1_0 : List Int) (a1_1 : Int) : LimIs (fun k => dist_same_1.f k l0_0 a0_1 l1_0 a1_1) (dist_same_1.F l0_0 a0_1 l1_0 a1_1) := ⟨fun k => dist_same_1.mono l0_0 a0_1 l1_0 a1_1 k, rfl⟩
set_option maxRecDepth 100000 in
theorem dist_Make.L0_eq (x4 : List (S32)) (x7 : List (S32)) (x8 : Int) (x9 : Int) : dist_Make.L0 x4 x7 x8 x9 = if x9 < x8 then (if 0 ≤ x9 then (if x9 < (x7.length : Int) then ((dist_small.F ((rd_T32 x7 x9).f0)).bind fun t129 => (if t129 = true then (if ((rd_T32 x7 x9).f1) < 0 then (some (([] : List (S32)), 3)) else (if ((rd_T32 x7 x9).f1) > 1073741824 then (some (([] : List (S32)), 3)) else ((slices_Clone_int_int.f ((rd_T32 x7 x9).f0)).bind fun t130 => (if x4.length < 4398046511104 then (dist_Make.L0 (x4 ++ [(⟨t130, (rd_T32 x7 x9).f1⟩ : S32)]) x7 x8 (wrap64 (x9 + 1))) else (none))))) else (some (([] : List (S32)), 3)))) else (none)) else (none)) else ((dist_tidy.F x4).bind fun bt123 => (some (bt123.1, bt123.2))) := by
  refine LimIs.step' (dist_Make.L0_is x4 x7 x8 x9).1 (b := fun k => if x9 < x8 then (if 0 ≤ x9 then (if x9 < (x7.length : Int) then ((dist_small.f k ((rd_T32 x7 x9).f0)).bind fun t129 => (if t129 = true then (if ((rd_T32 x7 x9).f1) < 0 then (some (([] : List (S32)), 3)) else (if ((rd_T32 x7 x9).f1) > 1073741824 then (some (([] : List (S32)), 3)) else ((slices_Clone_int_int.f ((rd_T32 x7 x9).f0)).bind fun t130 => (if x4.length < 4398046511104 then (dist_Make.l0 k (x4 ++ [(⟨t130, (rd_T32 x7 x9).f1⟩ : S32)]) x7 x8 (wrap64 (x9 + 1))) else (none))))) else (some (([] : List (S32)), 3)))) else (none)) else (none)) else ((dist_tidy.f k x4).bind fun bt123 => (some (bt123.1, bt123.2)))) (fun k => by first | rfl | rw [dist_Make.l0]) ?_
  repeat' first
    | (with_reducible exact dist_small.F_is _)
    | (with_reducible exact dist_Make.L0_is _ _ _ _)
    | (with_reducible exact dist_tidy.F_is _)
    | (with_reducible exact LimIs.const _)
    | (with_reducible refine LimIs.ite ?_ ?_)
    | (with_reducible refine LimIs.bind ?_ (fun _ => ?_))
    | exact dist_small.F_is _
    | exact dist_Make.L0_is _ _ _ _
    | exact dist_tidy.F_is _
    | exact LimIs.const _
    | refine LimIs.ite ?_ ?_
    | refine LimIs.bind ?_ (fun _ => ?_)
set_option maxRecDepth 100000 in
theorem dist_Make.F_eq (l0 : List (S32)) : dist_Make.F l0 = dist_Make.L0 ([] : List (S32)) l0 (l0.length : Int) 0 := by
  refine LimIs.out (?_ : LimIs (fun k => dist_Make.l0 k ([] : List (S32)) l0 (l0.length : Int) 0) _)
  repeat' first
    | (with_reducible exact dist_Make.L0_is _ _ _ _)
    | (with_reducible exact LimIs.const _)
    | (with_reducible refine LimIs.ite ?_ ?_)
    | (with_reducible refine LimIs.bind ?_ (fun _ => ?_))
    | exact dist_Make.L0_is _ _ _ _
    | exact LimIs.const _
    | refine LimIs.ite ?_ ?_
    | refine LimIs.bind ?_ (fun _ => ?_)
set_option maxRecDepth 100000 in
theorem dist_same_1.F_eq (l0_0 : List Int) (a0_1 : Int) (l1_0 : List Int) (a1_1 : Int) : dist_same_1.F l0_0 a0_1 l1_0 a1_1 = if a0_1 = a1_1 then ((slices_Equal_int_int.F l0_0 l1_0).bind fun t138 => (some t138)) else (some false) := by
  refine LimIs.out (?_ : LimIs (fun k => if a0_1 = a1_1 then ((slices_Equal_int_int.f k l0_0 l1_0).bind fun t138 => (some t138)) else (some false)) _)
  repeat' first
    | (with_reducible exact slices_Equal_int_int.F_is _ _)
    | (with_reducible exact LimIs.const _)
    | (with_reducible refine LimIs.ite ?_ ?_)
    | (with_reducible refine LimIs.bind ?_ (fun _ => ?_))
    | exact slices_Equal_int_int.F_is _ _
    | exact LimIs.const _
    | refine LimIs.ite ?_ ?_
    | refine LimIs.bind ?_ (fun _ => ?_)
end Go.Proofs.Ytkemhfhmlcljjaa.PQ
end
section
namespace Go.Proofs.Ytkemhfhmlcljjaa.PQ
open Go.RowKit Go.Proofs.YtkemhfhmlcljjaaW.PrintWords Go.Proofs.YtkemhfhmlcljjaaW.PrintLast Go.Proofs.YtkemhfhmlcljjaaW.PrintMore
open Go.Proofs.YtkemhfhmlcljjaaW.EvKit
set_option linter.unusedVariables false
noncomputable def api_Part.L0 (x1 : List (S32)) (x15 : List (S32)) (x16 : Int) (x17 : Int) : Option (Bool) := lim (fun k => api_Part.l0 k x1 x15 x16 x17)
theorem api_Part.L0_is (x1 : List (S32)) (x15 : List (S32)) (x16 : Int) (x17 : Int) : LimIs (fun k => api_Part.l0 k x1 x15 x16 x17) (api_Part.L0 x1 x15 x16 x17) := ⟨fun k => (api_Part.mono_l k) x1 x15 x16 x17, rfl⟩
noncomputable def api_Part.F (l0 : List (S32)) (l1 : List (S32)) (a2 : Int) : Option (Bool) := lim (fun k => api_Part.f k l0 l1 a2)
theorem api_Part.F_is (l0 : List (S32)) (l1 : List (S32)) (a2 : Int) : LimIs (fun k => api_Part.f k l0 l1 a2) (api_Part.F l0 l1 a2) := ⟨fun k => api_Part.mono l0 l1 a2 k, rfl⟩
noncomputable def dist_same.F (l0 : List (S32)) (l1 : List (S32)) : Option (Bool) := lim (fun k => dist_same.f k l0 l1)
theorem dist_same.F_is (l0 : List (S32)) (l1 : List (S32)) : LimIs (fun k => dist_same.f k l0 l1) (dist_same.F l0 l1) := ⟨fun k => dist_same.mono l0 l1 k, rfl⟩
noncomputable def dist_Wrong.F (l0 : List (S32)) : Option (Int) := lim (fun k => dist_Wrong.f k l0)
theorem dist_Wrong.F_is (l0 : List (S32)) : LimIs (fun k => dist_Wrong.f k l0) (dist_Wrong.F l0) := ⟨fun k => dist_Wrong.mono l0 k, rfl⟩
noncomputable def dist_Sure.F (l0 : List Int) : Option ((List (S32)) × Int) := lim (fun k => dist_Sure.f k l0)
theorem dist_Sure.F_is (l0 : List Int) : LimIs (fun k => dist_Sure.f k l0) (dist_Sure.F l0) := ⟨fun k => dist_Sure.mono l0 k, rfl⟩
noncomputable def hushlaw2_alive.F : Option (Bool) := lim (fun k => hushlaw2_alive.f k)
theorem hushlaw2_alive.F_is : LimIs (fun k => hushlaw2_alive.f k) (hushlaw2_alive.F) := ⟨fun k => hushlaw2_alive.mono k, rfl⟩
set_option maxRecDepth 100000 in
theorem api_Part.L0_eq (x1 : List (S32)) (x15 : List (S32)) (x16 : Int) (x17 : Int) : api_Part.L0 x1 x15 x16 x17 = if x17 < x16 then (if 0 ≤ x17 then (if x17 < (x15.length : Int) then (if x17 < (x1.length : Int) then ((dist_same_1.F ((rd_T32 x15 x17).f0) ((rd_T32 x15 x17).f1) ((rd_T32 x1 x17).f0) ((rd_T32 x1 x17).f1)).bind fun t143 => (if t143 = true then (api_Part.L0 x1 x15 x16 (wrap64 (x17 + 1))) else (some false))) else (none)) else (none)) else (none)) else (some true) := by
  refine LimIs.step' (api_Part.L0_is x1 x15 x16 x17).1 (b := fun k => if x17 < x16 then (if 0 ≤ x17 then (if x17 < (x15.length : Int) then (if x17 < (x1.length : Int) then ((dist_same_1.f k ((rd_T32 x15 x17).f0) ((rd_T32 x15 x17).f1) ((rd_T32 x1 x17).f0) ((rd_T32 x1 x17).f1)).bind fun t143 => (if t143 = true then (api_Part.l0 k x1 x15 x16 (wrap64 (x17 + 1))) else (some false))) else (none)) else (none)) else (none)) else (some true)) (fun k => by first | rfl | rw [api_Part.l0]) ?_
  repeat' first
    | (with_reducible exact dist_same_1.F_is _ _ _ _)
    | (with_reducible exact api_Part.L0_is _ _ _ _)
    | (with_reducible exact LimIs.const _)
    | (with_reducible refine LimIs.ite ?_ ?_)
    | (with_reducible refine LimIs.bind ?_ (fun _ => ?_))
    | exact dist_same_1.F_is _ _ _ _
    | exact api_Part.L0_is _ _ _ _
    | exact LimIs.const _
    | refine LimIs.ite ?_ ?_
    | refine LimIs.bind ?_ (fun _ => ?_)
set_option maxRecDepth 100000 in
theorem api_Part.F_eq (l0 : List (S32)) (l1 : List (S32)) (a2 : Int) : api_Part.F l0 l1 a2 = if (l0.length : Int) = (l1.length : Int) then (api_Part.L0 l1 l0 (l0.length : Int) 0) else (some false) := by
  refine LimIs.out (?_ : LimIs (fun k => if (l0.length : Int) = (l1.length : Int) then (api_Part.l0 k l1 l0 (l0.length : Int) 0) else (some false)) _)
  repeat' first
    | (with_reducible exact api_Part.L0_is _ _ _ _)
    | (with_reducible exact LimIs.const _)
    | (with_reducible refine LimIs.ite ?_ ?_)
    | (with_reducible refine LimIs.bind ?_ (fun _ => ?_))
    | exact api_Part.L0_is _ _ _ _
    | exact LimIs.const _
    | refine LimIs.ite ?_ ?_
    | refine LimIs.bind ?_ (fun _ => ?_)
set_option maxRecDepth 100000 in
theorem dist_same.F_eq (l0 : List (S32)) (l1 : List (S32)) : dist_same.F l0 l1 = (api_Part.F l0 l1 990000082).bind fun t144 => (some t144) := by
  refine LimIs.out (?_ : LimIs (fun k => (api_Part.f k l0 l1 990000082).bind fun t144 => (some t144)) _)
  repeat' first
    | (with_reducible exact api_Part.F_is _ _ _)
    | (with_reducible exact LimIs.const _)
    | (with_reducible refine LimIs.ite ?_ ?_)
    | (with_reducible refine LimIs.bind ?_ (fun _ => ?_))
    | exact api_Part.F_is _ _ _
    | exact LimIs.const _
    | refine LimIs.ite ?_ ?_
    | refine LimIs.bind ?_ (fun _ => ?_)
set_option maxRecDepth 100000 in
theorem dist_Wrong.F_eq (l0 : List (S32)) : dist_Wrong.F l0 = (dist_Make.F l0).bind fun bt145 => (if bt145.2 = 0 then ((dist_same.F l0 bt145.1).bind fun t149 => (if t149 = true then (some bt145.2) else (some (2 : Int)))) else (some bt145.2)) := by
  refine LimIs.out (?_ : LimIs (fun k => (dist_Make.f k l0).bind fun bt145 => (if bt145.2 = 0 then ((dist_same.f k l0 bt145.1).bind fun t149 => (if t149 = true then (some bt145.2) else (some (2 : Int)))) else (some bt145.2))) _)
  repeat' first
    | (with_reducible exact dist_Make.F_is _)
    | (with_reducible exact dist_same.F_is _ _)
    | (with_reducible exact LimIs.const _)
    | (with_reducible refine LimIs.ite ?_ ?_)
    | (with_reducible refine LimIs.bind ?_ (fun _ => ?_))
    | exact dist_Make.F_is _
    | exact dist_same.F_is _ _
    | exact LimIs.const _
    | refine LimIs.ite ?_ ?_
    | refine LimIs.bind ?_ (fun _ => ?_)
set_option maxRecDepth 100000 in
theorem dist_Sure.F_eq (l0 : List Int) : dist_Sure.F l0 = (dist_Make.F (([(⟨l0, 1⟩ : S32)] : List (S32)))).bind fun bt153 => (some (bt153.1, bt153.2)) := by
  refine LimIs.out (?_ : LimIs (fun k => (dist_Make.f k (([(⟨l0, 1⟩ : S32)] : List (S32)))).bind fun bt153 => (some (bt153.1, bt153.2))) _)
  repeat' first
    | (with_reducible exact dist_Make.F_is _)
    | (with_reducible exact LimIs.const _)
    | (with_reducible refine LimIs.ite ?_ ?_)
    | (with_reducible refine LimIs.bind ?_ (fun _ => ?_))
    | exact dist_Make.F_is _
    | exact LimIs.const _
    | refine LimIs.ite ?_ ?_
    | refine LimIs.bind ?_ (fun _ => ?_)
set_option maxRecDepth 100000 in
theorem hushlaw2_alive.F_eq : hushlaw2_alive.F = (dist_Sure.F (([3] : List Int))).bind fun bt160 => (if bt160.2 = 0 then (if (bt160.1.length : Int) = 1 then (if 0 < (bt160.1.length : Int) then (some (((rd_T32 bt160.1 0).f1) == 1)) else (none)) else (some false)) else (some false)) := by
  refine LimIs.out (?_ : LimIs (fun k => (dist_Sure.f k (([3] : List Int))).bind fun bt160 => (if bt160.2 = 0 then (if (bt160.1.length : Int) = 1 then (if 0 < (bt160.1.length : Int) then (some (((rd_T32 bt160.1 0).f1) == 1)) else (none)) else (some false)) else (some false))) _)
  repeat' first
    | (with_reducible exact dist_Sure.F_is _)
    | (with_reducible exact LimIs.const _)
    | (with_reducible refine LimIs.ite ?_ ?_)
    | (with_reducible refine LimIs.bind ?_ (fun _ => ?_))
    | exact dist_Sure.F_is _
    | exact LimIs.const _
    | refine LimIs.ite ?_ ?_
    | refine LimIs.bind ?_ (fun _ => ?_)
end Go.Proofs.Ytkemhfhmlcljjaa.PQ
end
section
namespace Go.Proofs.Ytkemhfhmlcljjaa.PQ
open Go.RowKit Go.Proofs.YtkemhfhmlcljjaaW.PrintWords Go.Proofs.YtkemhfhmlcljjaaW.PrintLast Go.Proofs.YtkemhfhmlcljjaaW.PrintMore
open Go.Proofs.YtkemhfhmlcljjaaW.EvKit
set_option linter.unusedVariables false
noncomputable def plain_Then.L0 (x1 : List Int) (x7 : List (S45)) (x8 : Int) (x9 : Int) : Option ((List (S32))) := lim (fun k => plain_Then.l0 k x1 x7 x8 x9)
theorem plain_Then.L0_is (x1 : List Int) (x7 : List (S45)) (x8 : Int) (x9 : Int) : LimIs (fun k => plain_Then.l0 k x1 x7 x8 x9) (plain_Then.L0 x1 x7 x8 x9) := ⟨fun k => (plain_Then.mono_l k) x1 x7 x8 x9, rfl⟩
noncomputable def plain_Then.F (l0 : List (S45)) (l1 : List Int) : Option ((List (S32))) := lim (fun k => plain_Then.f k l0 l1)
theorem plain_Then.F_is (l0 : List (S45)) (l1 : List Int) : LimIs (fun k => plain_Then.f k l0 l1) (plain_Then.F l0 l1) := ⟨fun k => plain_Then.mono l0 l1 k, rfl⟩
noncomputable def plain_Bind_1.F (l0 : List Int) (l1 : List (S45)) : Option ((List (S32)) × Int) := lim (fun k => plain_Bind_1.f k l0 l1)
theorem plain_Bind_1.F_is (l0 : List Int) (l1 : List (S45)) : LimIs (fun k => plain_Bind_1.f k l0 l1) (plain_Bind_1.F l0 l1) := ⟨fun k => plain_Bind_1.mono l0 l1 k, rfl⟩
set_option maxRecDepth 100000 in
theorem plain_Then.L0_eq (x1 : List Int) (x7 : List (S45)) (x8 : Int) (x9 : Int) : plain_Then.L0 x1 x7 x8 x9 = if x9 < x8 then (if 0 ≤ x9 then (if x9 < (x7.length : Int) then ((slices_Equal_int_int.F ((rd_T45 x7 x9).f0) x1).bind fun t167 => (if t167 = true then (some ((rd_T45 x7 x9).f1)) else (plain_Then.L0 x1 x7 x8 (wrap64 (x9 + 1))))) else (none)) else (none)) else (some (([(⟨x1, 1⟩ : S32)] : List (S32)))) := by
  refine LimIs.step' (plain_Then.L0_is x1 x7 x8 x9).1 (b := fun k => if x9 < x8 then (if 0 ≤ x9 then (if x9 < (x7.length : Int) then ((slices_Equal_int_int.f k ((rd_T45 x7 x9).f0) x1).bind fun t167 => (if t167 = true then (some ((rd_T45 x7 x9).f1)) else (plain_Then.l0 k x1 x7 x8 (wrap64 (x9 + 1))))) else (none)) else (none)) else (some (([(⟨x1, 1⟩ : S32)] : List (S32))))) (fun k => by first | rfl | rw [plain_Then.l0]) ?_
  repeat' first
    | (with_reducible exact slices_Equal_int_int.F_is _ _)
    | (with_reducible exact plain_Then.L0_is _ _ _ _)
    | (with_reducible exact LimIs.const _)
    | (with_reducible refine LimIs.ite ?_ ?_)
    | (with_reducible refine LimIs.bind ?_ (fun _ => ?_))
    | exact slices_Equal_int_int.F_is _ _
    | exact plain_Then.L0_is _ _ _ _
    | exact LimIs.const _
    | refine LimIs.ite ?_ ?_
    | refine LimIs.bind ?_ (fun _ => ?_)
set_option maxRecDepth 100000 in
theorem plain_Then.F_eq (l0 : List (S45)) (l1 : List Int) : plain_Then.F l0 l1 = plain_Then.L0 l1 l0 (l0.length : Int) 0 := by
  refine LimIs.out (?_ : LimIs (fun k => plain_Then.l0 k l1 l0 (l0.length : Int) 0) _)
  repeat' first
    | (with_reducible exact plain_Then.L0_is _ _ _ _)
    | (with_reducible exact LimIs.const _)
    | (with_reducible refine LimIs.ite ?_ ?_)
    | (with_reducible refine LimIs.bind ?_ (fun _ => ?_))
    | exact plain_Then.L0_is _ _ _ _
    | exact LimIs.const _
    | refine LimIs.ite ?_ ?_
    | refine LimIs.bind ?_ (fun _ => ?_)
set_option maxRecDepth 100000 in
theorem plain_Bind_1.F_eq (l0 : List Int) (l1 : List (S45)) : plain_Bind_1.F l0 l1 = (plain_Then.F l1 l0).bind fun t171 => (some (t171, (0 : Int))) := by
  refine LimIs.out (?_ : LimIs (fun k => (plain_Then.f k l1 l0).bind fun t171 => (some (t171, (0 : Int)))) _)
  repeat' first
    | (with_reducible exact plain_Then.F_is _ _)
    | (with_reducible exact LimIs.const _)
    | (with_reducible refine LimIs.ite ?_ ?_)
    | (with_reducible refine LimIs.bind ?_ (fun _ => ?_))
    | exact plain_Then.F_is _ _
    | exact LimIs.const _
    | refine LimIs.ite ?_ ?_
    | refine LimIs.bind ?_ (fun _ => ?_)
end Go.Proofs.Ytkemhfhmlcljjaa.PQ
end
section
namespace Go.Proofs.Ytkemhfhmlcljjaa.PQ
open Go.RowKit Go.Proofs.YtkemhfhmlcljjaaW.PrintWords Go.Proofs.YtkemhfhmlcljjaaW.PrintLast Go.Proofs.YtkemhfhmlcljjaaW.PrintMore
open Go.Proofs.YtkemhfhmlcljjaaW.EvKit
set_option linter.unusedVariables false
noncomputable def dist_Bind.L0 (x0 : List (S32)) (x1 : List (S45)) (x7 : List (List (S32))) (x8 : Int) (x28 : List (S32)) (x29 : Int) (x30 : Int) : Option ((List (S32)) × Int) := lim (fun k => dist_Bind.l0 k x0 x1 x7 x8 x28 x29 x30)
theorem dist_Bind.L0_is (x0 : List (S32)) (x1 : List (S45)) (x7 : List (List (S32))) (x8 : Int) (x28 : List (S32)) (x29 : Int) (x30 : Int) : LimIs (fun k => dist_Bind.l0 k x0 x1 x7 x8 x28 x29 x30) (dist_Bind.L0 x0 x1 x7 x8 x28 x29 x30) := ⟨fun k => (dist_Bind.mono_l k).1 x0 x1 x7 x8 x28 x29 x30, rfl⟩
noncomputable def dist_Bind.J1 (x0 : List (S32)) (x1 : List (S45)) (x7 : List (List (S32))) (x8 : Int) (x9 : Int) (x11 : List (S32)) (x12 : Int) (x28 : List (S32)) (x29 : Int) (x30 : Int) : Option ((List (S32)) × Int) := lim (fun k => dist_Bind.j1 k x0 x1 x7 x8 x9 x11 x12 x28 x29 x30)
theorem dist_Bind.J1_is (x0 : List (S32)) (x1 : List (S45)) (x7 : List (List (S32))) (x8 : Int) (x9 : Int) (x11 : List (S32)) (x12 : Int) (x28 : List (S32)) (x29 : Int) (x30 : Int) : LimIs (fun k => dist_Bind.j1 k x0 x1 x7 x8 x9 x11 x12 x28 x29 x30) (dist_Bind.J1 x0 x1 x7 x8 x9 x11 x12 x28 x29 x30) := ⟨fun k => (dist_Bind.mono_l k).2.1 x0 x1 x7 x8 x9 x11 x12 x28 x29 x30, rfl⟩
noncomputable def dist_Bind.L1 (x7 : List (List (S32))) (x8 : Int) (x14 : List (S32)) (x71 : List (S32)) (x72 : Int) (x73 : Int) : Option ((List (S32)) × Int) := lim (fun k => dist_Bind.l1 k x7 x8 x14 x71 x72 x73)
theorem dist_Bind.L1_is (x7 : List (List (S32))) (x8 : Int) (x14 : List (S32)) (x71 : List (S32)) (x72 : Int) (x73 : Int) : LimIs (fun k => dist_Bind.l1 k x7 x8 x14 x71 x72 x73) (dist_Bind.L1 x7 x8 x14 x71 x72 x73) := ⟨fun k => (dist_Bind.mono_l k).2.2.1 x7 x8 x14 x71 x72 x73, rfl⟩
noncomputable def dist_Bind.L2 (x7 : List (List (S32))) (x8 : Int) (x14 : List (S32)) (x17 : Int) (x71 : List (S32)) (x72 : Int) (x73 : Int) (x88 : List (S32)) (x89 : Int) (x90 : Int) (x198000 : List Int) (x198001 : Int) : Option ((List (S32)) × Int) := lim (fun k => dist_Bind.l2 k x7 x8 x14 x17 x71 x72 x73 x88 x89 x90 x198000 x198001)
theorem dist_Bind.L2_is (x7 : List (List (S32))) (x8 : Int) (x14 : List (S32)) (x17 : Int) (x71 : List (S32)) (x72 : Int) (x73 : Int) (x88 : List (S32)) (x89 : Int) (x90 : Int) (x198000 : List Int) (x198001 : Int) : LimIs (fun k => dist_Bind.l2 k x7 x8 x14 x17 x71 x72 x73 x88 x89 x90 x198000 x198001) (dist_Bind.L2 x7 x8 x14 x17 x71 x72 x73 x88 x89 x90 x198000 x198001) := ⟨fun k => (dist_Bind.mono_l k).2.2.2 x7 x8 x14 x17 x71 x72 x73 x88 x89 x90 x198000 x198001, rfl⟩
noncomputable def dist_Bind.F (l0 : List (S32)) (l1 : List (S45)) : Option ((List (S32)) × Int) := lim (fun k => dist_Bind.f k l0 l1)
theorem dist_Bind.F_is (l0 : List (S32)) (l1 : List (S45)) : LimIs (fun k => dist_Bind.f k l0 l1) (dist_Bind.F l0 l1) := ⟨fun k => dist_Bind.mono l0 l1 k, rfl⟩
set_option maxRecDepth 100000 in
theorem dist_Bind.L0_eq (x0 : List (S32)) (x1 : List (S45)) (x7 : List (List (S32))) (x8 : Int) (x28 : List (S32)) (x29 : Int) (x30 : Int) : dist_Bind.L0 x0 x1 x7 x8 x28 x29 x30 = if x30 < x29 then (if 0 ≤ x30 then (if x30 < (x28.length : Int) then ((slices_Clone_int_int.f ((rd_T32 x28 x30).f0)).bind fun t180 => ((plain_Bind_1.F t180 x1).bind fun bt183 => (if bt183.2 = 0 then ((dist_Wrong.F bt183.1).bind fun t187 => (dist_Bind.J1 x0 x1 x7 x8 x30 bt183.1 t187 x28 x29 x30)) else (dist_Bind.J1 x0 x1 x7 x8 x30 bt183.1 bt183.2 x28 x29 x30)))) else (none)) else (none)) else ((dist_total.F x0).bind fun t191 => (if (wrap64 (x8 * t191)) > 1073741824 then (some (([] : List (S32)), 4)) else (dist_Bind.L1 x7 x8 ([] : List (S32)) x0 (x0.length : Int) 0))) := by
  refine LimIs.step' (dist_Bind.L0_is x0 x1 x7 x8 x28 x29 x30).1 (b := fun k => if x30 < x29 then (if 0 ≤ x30 then (if x30 < (x28.length : Int) then ((slices_Clone_int_int.f ((rd_T32 x28 x30).f0)).bind fun t180 => ((plain_Bind_1.f k t180 x1).bind fun bt183 => (if bt183.2 = 0 then ((dist_Wrong.f k bt183.1).bind fun t187 => (dist_Bind.j1 k x0 x1 x7 x8 x30 bt183.1 t187 x28 x29 x30)) else (dist_Bind.j1 k x0 x1 x7 x8 x30 bt183.1 bt183.2 x28 x29 x30)))) else (none)) else (none)) else ((dist_total.f k x0).bind fun t191 => (if (wrap64 (x8 * t191)) > 1073741824 then (some (([] : List (S32)), 4)) else (dist_Bind.l1 k x7 x8 ([] : List (S32)) x0 (x0.length : Int) 0)))) (fun k => by first | rfl | rw [dist_Bind.l0]) ?_
  repeat' first
    | (with_reducible exact plain_Bind_1.F_is _ _)
    | (with_reducible exact dist_Wrong.F_is _)
    | (with_reducible exact dist_Bind.J1_is _ _ _ _ _ _ _ _ _ _)
    | (with_reducible exact dist_total.F_is _)
    | (with_reducible exact dist_Bind.L1_is _ _ _ _ _ _)
    | (with_reducible exact LimIs.const _)
    | (with_reducible refine LimIs.ite ?_ ?_)
    | (with_reducible refine LimIs.bind ?_ (fun _ => ?_))
    | exact plain_Bind_1.F_is _ _
    | exact dist_Wrong.F_is _
    | exact dist_Bind.J1_is _ _ _ _ _ _ _ _ _ _
    | exact dist_total.F_is _
    | exact dist_Bind.L1_is _ _ _ _ _ _
    | exact LimIs.const _
    | refine LimIs.ite ?_ ?_
    | refine LimIs.bind ?_ (fun _ => ?_)
set_option maxRecDepth 100000 in
theorem dist_Bind.J1_eq (x0 : List (S32)) (x1 : List (S45)) (x7 : List (List (S32))) (x8 : Int) (x9 : Int) (x11 : List (S32)) (x12 : Int) (x28 : List (S32)) (x29 : Int) (x30 : Int) : dist_Bind.J1 x0 x1 x7 x8 x9 x11 x12 x28 x29 x30 = if x12 = 0 then (if 0 ≤ x9 then (if x9 < (x7.length : Int) then ((dist_total.F x11).bind fun t189 => ((dist_gcd.F x8 t189).bind fun t190 => (if t190 = 0 then (none) else (if (wrap64 ((wrap64 (Int.tdiv x8 t190)) * t189)) > 1073741824 then (some (([] : List (S32)), 4)) else (dist_Bind.L0 x0 x1 (x7.set (x9 : Int).toNat x11) (wrap64 ((wrap64 (Int.tdiv x8 t190)) * t189)) x28 x29 (wrap64 (x30 + 1))))))) else (none)) else (none)) else (some (([] : List (S32)), x12)) := by
  refine LimIs.step' (dist_Bind.J1_is x0 x1 x7 x8 x9 x11 x12 x28 x29 x30).1 (b := fun k => if x12 = 0 then (if 0 ≤ x9 then (if x9 < (x7.length : Int) then ((dist_total.f k x11).bind fun t189 => ((dist_gcd.f k x8 t189).bind fun t190 => (if t190 = 0 then (none) else (if (wrap64 ((wrap64 (Int.tdiv x8 t190)) * t189)) > 1073741824 then (some (([] : List (S32)), 4)) else (dist_Bind.l0 k x0 x1 (x7.set (x9 : Int).toNat x11) (wrap64 ((wrap64 (Int.tdiv x8 t190)) * t189)) x28 x29 (wrap64 (x30 + 1))))))) else (none)) else (none)) else (some (([] : List (S32)), x12))) (fun k => by first | rfl | rw [dist_Bind.j1]) ?_
  repeat' first
    | (with_reducible exact dist_total.F_is _)
    | (with_reducible exact dist_gcd.F_is _ _)
    | (with_reducible exact dist_Bind.L0_is _ _ _ _ _ _ _)
    | (with_reducible exact LimIs.const _)
    | (with_reducible refine LimIs.ite ?_ ?_)
    | (with_reducible refine LimIs.bind ?_ (fun _ => ?_))
    | exact dist_total.F_is _
    | exact dist_gcd.F_is _ _
    | exact dist_Bind.L0_is _ _ _ _ _ _ _
    | exact LimIs.const _
    | refine LimIs.ite ?_ ?_
    | refine LimIs.bind ?_ (fun _ => ?_)
set_option maxRecDepth 100000 in
theorem dist_Bind.L1_eq (x7 : List (List (S32))) (x8 : Int) (x14 : List (S32)) (x71 : List (S32)) (x72 : Int) (x73 : Int) : dist_Bind.L1 x7 x8 x14 x71 x72 x73 = if x73 < x72 then (if 0 ≤ x73 then (if x73 < (x71.length : Int) then (if x73 < (x7.length : Int) then ((dist_total.F (rd_L3 x7 x73)).bind fun t199 => (if t199 = 0 then (none) else (dist_Bind.L2 x7 x8 x14 (wrap64 (Int.tdiv x8 t199)) x71 x72 x73 (rd_L3 x7 x73) ((rd_L3 x7 x73).length : Int) 0 ((rd_T32 x71 x73).f0) ((rd_T32 x71 x73).f1)))) else (none)) else (none)) else (none)) else ((dist_tidy.F x14).bind fun bt192 => (some (bt192.1, bt192.2))) := by
  refine LimIs.step' (dist_Bind.L1_is x7 x8 x14 x71 x72 x73).1 (b := fun k => if x73 < x72 then (if 0 ≤ x73 then (if x73 < (x71.length : Int) then (if x73 < (x7.length : Int) then ((dist_total.f k (rd_L3 x7 x73)).bind fun t199 => (if t199 = 0 then (none) else (dist_Bind.l2 k x7 x8 x14 (wrap64 (Int.tdiv x8 t199)) x71 x72 x73 (rd_L3 x7 x73) ((rd_L3 x7 x73).length : Int) 0 ((rd_T32 x71 x73).f0) ((rd_T32 x71 x73).f1)))) else (none)) else (none)) else (none)) else ((dist_tidy.f k x14).bind fun bt192 => (some (bt192.1, bt192.2)))) (fun k => by first | rfl | rw [dist_Bind.l1]) ?_
  repeat' first
    | (with_reducible exact dist_total.F_is _)
    | (with_reducible exact dist_Bind.L2_is _ _ _ _ _ _ _ _ _ _ _ _)
    | (with_reducible exact dist_tidy.F_is _)
    | (with_reducible exact LimIs.const _)
    | (with_reducible refine LimIs.ite ?_ ?_)
    | (with_reducible refine LimIs.bind ?_ (fun _ => ?_))
    | exact dist_total.F_is _
    | exact dist_Bind.L2_is _ _ _ _ _ _ _ _ _ _ _ _
    | exact dist_tidy.F_is _
    | exact LimIs.const _
    | refine LimIs.ite ?_ ?_
    | refine LimIs.bind ?_ (fun _ => ?_)
set_option maxRecDepth 100000 in
theorem dist_Bind.L2_eq (x7 : List (List (S32))) (x8 : Int) (x14 : List (S32)) (x17 : Int) (x71 : List (S32)) (x72 : Int) (x73 : Int) (x88 : List (S32)) (x89 : Int) (x90 : Int) (x198000 : List Int) (x198001 : Int) : dist_Bind.L2 x7 x8 x14 x17 x71 x72 x73 x88 x89 x90 x198000 x198001 = if x90 < x89 then (if 0 ≤ x90 then (if x90 < (x88.length : Int) then ((slices_Clone_int_int.f ((rd_T32 x88 x90).f0)).bind fun t203 => (if x14.length < 4398046511104 then (dist_Bind.L2 x7 x8 (x14 ++ [(⟨t203, wrap64 ((wrap64 (x198001 * x17)) * ((rd_T32 x88 x90).f1))⟩ : S32)]) x17 x71 x72 x73 x88 x89 (wrap64 (x90 + 1)) x198000 x198001) else (none))) else (none)) else (none)) else (dist_Bind.L1 x7 x8 x14 x71 x72 (wrap64 (x73 + 1))) := by
  refine LimIs.step' (dist_Bind.L2_is x7 x8 x14 x17 x71 x72 x73 x88 x89 x90 x198000 x198001).1 (b := fun k => if x90 < x89 then (if 0 ≤ x90 then (if x90 < (x88.length : Int) then ((slices_Clone_int_int.f ((rd_T32 x88 x90).f0)).bind fun t203 => (if x14.length < 4398046511104 then (dist_Bind.l2 k x7 x8 (x14 ++ [(⟨t203, wrap64 ((wrap64 (x198001 * x17)) * ((rd_T32 x88 x90).f1))⟩ : S32)]) x17 x71 x72 x73 x88 x89 (wrap64 (x90 + 1)) x198000 x198001) else (none))) else (none)) else (none)) else (dist_Bind.l1 k x7 x8 x14 x71 x72 (wrap64 (x73 + 1)))) (fun k => by first | rfl | rw [dist_Bind.l2]) ?_
  repeat' first
    | (with_reducible exact dist_Bind.L2_is _ _ _ _ _ _ _ _ _ _ _ _)
    | (with_reducible exact dist_Bind.L1_is _ _ _ _ _ _)
    | (with_reducible exact LimIs.const _)
    | (with_reducible refine LimIs.ite ?_ ?_)
    | (with_reducible refine LimIs.bind ?_ (fun _ => ?_))
    | exact dist_Bind.L2_is _ _ _ _ _ _ _ _ _ _ _ _
    | exact dist_Bind.L1_is _ _ _ _ _ _
    | exact LimIs.const _
    | refine LimIs.ite ?_ ?_
    | refine LimIs.bind ?_ (fun _ => ?_)
set_option maxRecDepth 100000 in
theorem dist_Bind.F_eq (l0 : List (S32)) (l1 : List (S45)) : dist_Bind.F l0 l1 = (dist_Wrong.F l0).bind fun t174 => (if t174 = 0 then (if 0 ≤ (l0.length : Int) then (if ((l0.length : Int) : Int).toNat ≤ 11728124029610 then (dist_Bind.L0 l0 l1 (List.replicate ((l0.length : Int) : Int).toNat []) 1 l0 (l0.length : Int) 0) else (none)) else (none)) else (some (([] : List (S32)), t174))) := by
  refine LimIs.out (?_ : LimIs (fun k => (dist_Wrong.f k l0).bind fun t174 => (if t174 = 0 then (if 0 ≤ (l0.length : Int) then (if ((l0.length : Int) : Int).toNat ≤ 11728124029610 then (dist_Bind.l0 k l0 l1 (List.replicate ((l0.length : Int) : Int).toNat []) 1 l0 (l0.length : Int) 0) else (none)) else (none)) else (some (([] : List (S32)), t174)))) _)
  repeat' first
    | (with_reducible exact dist_Wrong.F_is _)
    | (with_reducible exact dist_Bind.L0_is _ _ _ _ _ _ _)
    | (with_reducible exact LimIs.const _)
    | (with_reducible refine LimIs.ite ?_ ?_)
    | (with_reducible refine LimIs.bind ?_ (fun _ => ?_))
    | exact dist_Wrong.F_is _
    | exact dist_Bind.L0_is _ _ _ _ _ _ _
    | exact LimIs.const _
    | refine LimIs.ite ?_ ?_
    | refine LimIs.bind ?_ (fun _ => ?_)
end Go.Proofs.Ytkemhfhmlcljjaa.PQ
end
section
namespace Go.Proofs.Ytkemhfhmlcljjaa.PQ
open Go.RowKit Go.Proofs.YtkemhfhmlcljjaaW.PrintWords Go.Proofs.YtkemhfhmlcljjaaW.PrintLast Go.Proofs.YtkemhfhmlcljjaaW.PrintMore
open Go.Proofs.YtkemhfhmlcljjaaW.EvKit
set_option linter.unusedVariables false
noncomputable def hushref2_Compare.L0 (x0 : List Int) (x1 : List Int) (x7 : Int) (x8 : Int) : Option (Int) := lim (fun k => hushref2_Compare.l0 k x0 x1 x7 x8)
theorem hushref2_Compare.L0_is (x0 : List Int) (x1 : List Int) (x7 : Int) (x8 : Int) : LimIs (fun k => hushref2_Compare.l0 k x0 x1 x7 x8) (hushref2_Compare.L0 x0 x1 x7 x8) := ⟨fun k => (hushref2_Compare.mono_l k) x0 x1 x7 x8, rfl⟩
noncomputable def hushref2_Same.L0 (x0 : List (S32)) (x1 : List (S32)) (x12 : Int) (x13 : Int) : Option (Bool) := lim (fun k => hushref2_Same.l0 k x0 x1 x12 x13)
theorem hushref2_Same.L0_is (x0 : List (S32)) (x1 : List (S32)) (x12 : Int) (x13 : Int) : LimIs (fun k => hushref2_Same.l0 k x0 x1 x12 x13) (hushref2_Same.L0 x0 x1 x12 x13) := ⟨fun k => (hushref2_Same.mono_l k) x0 x1 x12 x13, rfl⟩
noncomputable def hushref2_Compare.F (l0 : List Int) (l1 : List Int) : Option (Int) := lim (fun k => hushref2_Compare.f k l0 l1)
theorem hushref2_Compare.F_is (l0 : List Int) (l1 : List Int) : LimIs (fun k => hushref2_Compare.f k l0 l1) (hushref2_Compare.F l0 l1) := ⟨fun k => hushref2_Compare.mono l0 l1 k, rfl⟩
noncomputable def hushref2_Same.F (l0 : List (S32)) (l1 : List (S32)) : Option (Bool) := lim (fun k => hushref2_Same.f k l0 l1)
theorem hushref2_Same.F_is (l0 : List (S32)) (l1 : List (S32)) : LimIs (fun k => hushref2_Same.f k l0 l1) (hushref2_Same.F l0 l1) := ⟨fun k => hushref2_Same.mono l0 l1 k, rfl⟩
set_option maxRecDepth 100000 in
theorem hushref2_Compare.L0_eq (x0 : List Int) (x1 : List Int) (x7 : Int) (x8 : Int) : hushref2_Compare.L0 x0 x1 x7 x8 = if x8 < x7 then (if x8 ≥ (x1.length : Int) then (some 1) else (if 0 ≤ x8 then (if x8 < (x0.length : Int) then (if x8 < (x1.length : Int) then (if (rd x0 x8) = (rd x1 x8) then (hushref2_Compare.L0 x0 x1 x7 (wrap64 (x8 + 1))) else (if (rd x0 x8) < (rd x1 x8) then (some (-1)) else (some 1))) else (none)) else (none)) else (none))) else (if (x0.length : Int) < (x1.length : Int) then (some (-1)) else (some 0)) := by
  refine LimIs.step' (hushref2_Compare.L0_is x0 x1 x7 x8).1 (b := fun k => if x8 < x7 then (if x8 ≥ (x1.length : Int) then (some 1) else (if 0 ≤ x8 then (if x8 < (x0.length : Int) then (if x8 < (x1.length : Int) then (if (rd x0 x8) = (rd x1 x8) then (hushref2_Compare.l0 k x0 x1 x7 (wrap64 (x8 + 1))) else (if (rd x0 x8) < (rd x1 x8) then (some (-1)) else (some 1))) else (none)) else (none)) else (none))) else (if (x0.length : Int) < (x1.length : Int) then (some (-1)) else (some 0))) (fun k => by first | rfl | rw [hushref2_Compare.l0]) ?_
  repeat' first
    | (with_reducible exact hushref2_Compare.L0_is _ _ _ _)
    | (with_reducible exact LimIs.const _)
    | (with_reducible refine LimIs.ite ?_ ?_)
    | (with_reducible refine LimIs.bind ?_ (fun _ => ?_))
    | exact hushref2_Compare.L0_is _ _ _ _
    | exact LimIs.const _
    | refine LimIs.ite ?_ ?_
    | refine LimIs.bind ?_ (fun _ => ?_)
set_option maxRecDepth 100000 in
theorem hushref2_Same.L0_eq (x0 : List (S32)) (x1 : List (S32)) (x12 : Int) (x13 : Int) : hushref2_Same.L0 x0 x1 x12 x13 = if x13 < x12 then (if 0 ≤ x13 then (if x13 < (x0.length : Int) then (if x13 < (x1.length : Int) then (if ((rd_T32 x0 x13).f1) = ((rd_T32 x1 x13).f1) then ((hushref2_Compare.F ((rd_T32 x0 x13).f0) ((rd_T32 x1 x13).f0)).bind fun t109 => (if t109 = 0 then (hushref2_Same.L0 x0 x1 x12 (wrap64 (x13 + 1))) else (some false))) else (some false)) else (none)) else (none)) else (none)) else (some true) := by
  refine LimIs.step' (hushref2_Same.L0_is x0 x1 x12 x13).1 (b := fun k => if x13 < x12 then (if 0 ≤ x13 then (if x13 < (x0.length : Int) then (if x13 < (x1.length : Int) then (if ((rd_T32 x0 x13).f1) = ((rd_T32 x1 x13).f1) then ((hushref2_Compare.f k ((rd_T32 x0 x13).f0) ((rd_T32 x1 x13).f0)).bind fun t109 => (if t109 = 0 then (hushref2_Same.l0 k x0 x1 x12 (wrap64 (x13 + 1))) else (some false))) else (some false)) else (none)) else (none)) else (none)) else (some true)) (fun k => by first | rfl | rw [hushref2_Same.l0]) ?_
  repeat' first
    | (with_reducible exact hushref2_Compare.F_is _ _)
    | (with_reducible exact hushref2_Same.L0_is _ _ _ _)
    | (with_reducible exact LimIs.const _)
    | (with_reducible refine LimIs.ite ?_ ?_)
    | (with_reducible refine LimIs.bind ?_ (fun _ => ?_))
    | exact hushref2_Compare.F_is _ _
    | exact hushref2_Same.L0_is _ _ _ _
    | exact LimIs.const _
    | refine LimIs.ite ?_ ?_
    | refine LimIs.bind ?_ (fun _ => ?_)
set_option maxRecDepth 100000 in
theorem hushref2_Compare.F_eq (l0 : List Int) (l1 : List Int) : hushref2_Compare.F l0 l1 = hushref2_Compare.L0 l0 l1 (l0.length : Int) 0 := by
  refine LimIs.out (?_ : LimIs (fun k => hushref2_Compare.l0 k l0 l1 (l0.length : Int) 0) _)
  repeat' first
    | (with_reducible exact hushref2_Compare.L0_is _ _ _ _)
    | (with_reducible exact LimIs.const _)
    | (with_reducible refine LimIs.ite ?_ ?_)
    | (with_reducible refine LimIs.bind ?_ (fun _ => ?_))
    | exact hushref2_Compare.L0_is _ _ _ _
    | exact LimIs.const _
    | refine LimIs.ite ?_ ?_
    | refine LimIs.bind ?_ (fun _ => ?_)
set_option maxRecDepth 100000 in
theorem hushref2_Same.F_eq (l0 : List (S32)) (l1 : List (S32)) : hushref2_Same.F l0 l1 = if (l0.length : Int) = (l1.length : Int) then (hushref2_Same.L0 l0 l1 (l0.length : Int) 0) else (some false) := by
  refine LimIs.out (?_ : LimIs (fun k => if (l0.length : Int) = (l1.length : Int) then (hushref2_Same.l0 k l0 l1 (l0.length : Int) 0) else (some false)) _)
  repeat' first
    | (with_reducible exact hushref2_Same.L0_is _ _ _ _)
    | (with_reducible exact LimIs.const _)
    | (with_reducible refine LimIs.ite ?_ ?_)
    | (with_reducible refine LimIs.bind ?_ (fun _ => ?_))
    | exact hushref2_Same.L0_is _ _ _ _
    | exact LimIs.const _
    | refine LimIs.ite ?_ ?_
    | refine LimIs.bind ?_ (fun _ => ?_)
end Go.Proofs.Ytkemhfhmlcljjaa.PQ
end
section
namespace Go.Proofs.Ytkemhfhmlcljjaa.DistPure
set_option linter.unusedVariables false
set_option linter.unusedSimpArgs false
open Go.RowKit Go.Proofs.Ytkemhfhmlcljjaa.PQ Go.Proofs.YtkemhfhmlcljjaaW.PrintWords Go.Proofs.YtkemhfhmlcljjaaW.PrintLast Go.Proofs.YtkemhfhmlcljjaaW.PrintMore Go.Proofs.YtkemhfhmlcljjaaW.EvKit
theorem rdAt {xs : List Int} {i : Nat} (h : i < xs.length) : rd xs (i : Int) = xs[i] := by
  rw [rd_nat, List.getD_eq_getElem?_getD, List.getElem?_eq_getElem h]; rfl
theorem rd32At {xs : List S32} {i : Nat} (h : i < xs.length) : rd_T32 xs (i : Int) = xs[i] := by
  unfold rd_T32
  rw [Int.toNat_natCast, List.getD_eq_getElem?_getD, List.getElem?_eq_getElem h]; rfl
theorem w1 {i : Nat} (h : i < 4611686018427387904) : wrap64 ((i : Int) + 1) = ((i + 1 : Nat) : Int) := by rw [wrap64_of (by omega) (by omega)]; rfl
theorem eqF (x y : List Int) (hx : x.length ≤ 1048576) : slices_Equal_int_int.F x y = some (decide (x = y)) :=
  ((slices_Equal_int_int.F_is x y).iff _).2 (eq_is x y (by omega))
theorem rcmp_loop (x y : List Int) (hx : x.length ≤ 1048576) (hy : y.length ≤ 1048576) : ∀ (n i : Nat), i + n = x.length → i ≤ y.length →
    hushref2_Compare.L0 x y (x.length : Int) (i : Int) = some (cmpL (x.drop i) (y.drop i)) := by
  intro n
  induction n with
  | zero =>
    intro i hi h
    rw [hushref2_Compare.L0_eq, if_neg (by omega), List.drop_of_length_le (show x.length ≤ i by omega)]
    rcases Nat.lt_or_ge i y.length with h2 | h2
    · rw [if_pos (by omega), List.drop_eq_getElem_cons h2]
      rfl
    · rw [if_neg (by omega), List.drop_of_length_le h2]
      rfl
  | succ n ih =>
    intro i hi h
    have hxi : i < x.length := by omega
    rw [hushref2_Compare.L0_eq, if_pos (by omega), List.drop_eq_getElem_cons hxi]
    rcases Nat.lt_or_ge i y.length with h2 | h2
    · rw [if_neg (by omega), if_pos (by omega), if_pos (by omega), if_pos (by omega), List.drop_eq_getElem_cons h2, rdAt hxi, rdAt h2, cmpL]
      by_cases c : x[i] = y[i]
      · rw [if_pos c, if_neg (by omega), if_neg (by omega), w1 (by omega)]
        exact ih (i + 1) (by omega) (by omega)
      · rw [if_neg c]
        by_cases c1 : x[i] < y[i]
        · rw [if_pos c1, if_pos c1]
        · rw [if_neg c1, if_neg c1, if_pos (by omega)]
    · rw [if_pos (by omega), List.drop_of_length_le h2]
      rfl
theorem rcmpF (x y : List Int) (hx : x.length ≤ 1048576) (hy : y.length ≤ 1048576) : hushref2_Compare.F x y = some (cmpL x y) := by
  rw [hushref2_Compare.F_eq]
  exact rcmp_loop x y hx hy x.length 0 (by omega) (by omega)
theorem cmpL0 {a b : List Int} : cmpL a b = 0 ↔ a = b := ⟨cmpL_eq a b, fun h => by rw [h, cmpL_self]⟩
def okN (n : Int) : Bool := decide (-1073741824 ≤ n) && decide (n ≤ 1073741824)
def smallB (o : List Int) : Bool := decide (o.length ≤ 16) && o.all okN
theorem small1 (n : Int) : dist_small_1.f n = some (!okN n) := by
  unfold dist_small_1.f okN
  by_cases h : n < -1073741824
  · rw [if_pos h]; congr 1; symm; simp; omega
  · rw [if_neg h]; congr 1; rw [Bool.eq_iff_iff]; simp; omega
theorem index_loop (x : List Int) (hx : x.length ≤ 1048576) : ∀ (n i : Nat), i + n = x.length →
    ∃ r, slices_IndexFunc_int_int.L0 x (x.length : Int) (i : Int) = some r ∧ decide (r ≥ 0) = !((x.drop i).all okN) := by
  intro n
  induction n with
  | zero =>
    intro i hi
    refine ⟨-1, ?_, ?_⟩
    · rw [slices_IndexFunc_int_int.L0_eq, if_neg (by omega)]
    · rw [List.drop_of_length_le (show x.length ≤ i by omega)]; rfl
  | succ n ih =>
    intro i hi
    have hxi : i < x.length := by omega
    rw [slices_IndexFunc_int_int.L0_eq, if_pos (by omega), if_pos (by omega), if_pos (by omega), rdAt hxi, small1, Option.bind_some, List.drop_eq_getElem_cons hxi, List.all_cons]
    cases h : okN x[i] with
    | false => exact ⟨i, if_pos rfl, by simp⟩
    | true =>
      obtain ⟨r, h1, h2⟩ := ih (i + 1) (by omega)
      refine ⟨r, ?_, by rw [h2]; rfl⟩
      rw [if_neg (by decide), w1 (by omega)]
      exact h1
theorem smallF (o : List Int) (h : o.length ≤ 1048576) : dist_small.F o = some (smallB o) := by
  rw [dist_small.F_eq]
  unfold smallB
  by_cases c : o.length ≤ 16
  · obtain ⟨r, h1, h2⟩ := index_loop o h o.length 0 (by omega)
    rw [if_pos (by omega), slices_ContainsFunc_int_int.F_eq, slices_IndexFunc_int_int.F_eq]
    rw [show (0 : Int) = ((0 : Nat) : Int) from rfl, h1]
    rw [Option.bind_some, Option.bind_some]
    have h2 : decide (r ≥ ((0 : Nat) : Int)) = !((o.drop 0).all okN) := h2
    rw [h2, List.drop_zero, decide_eq_true c]
    simp
  · rw [if_neg (by omega), decide_eq_false c]; rfl
theorem totOf_cons (p : S32) (l : List S32) : totOf (p :: l) = p.f1 + totOf l := rfl
theorem totOf_nil : totOf [] = 0 := rfl
theorem wOf_le : ∀ {l : List S32}, (∀ p ∈ l, 0 ≤ p.f1) → ∀ o, 0 ≤ wOf l o ∧ wOf l o ≤ totOf l
  | [], _, _ => ⟨Int.le_refl _, Int.le_refl _⟩
  | p :: l, h, o => by
    have := wOf_le (l := l) (fun q hq => h q (by simp [hq])) o
    have := h p (by simp)
    rw [totOf_cons, wOf_cons]
    split <;> omega
theorem tot_bd : ∀ {l : List S32}, (∀ p ∈ l, 0 ≤ p.f1 ∧ p.f1 ≤ 1073741824) → totOf l ≤ 1073741824 * (l.length : Int)
  | [], _ => Int.le_refl _
  | p :: l, h => by
    have := tot_bd (l := l) (fun q hq => h q (by simp [hq]))
    have := h p (by simp)
    rw [totOf_cons, List.length_cons]; omega
theorem totF (l : List S32) (hl : l.length ≤ 1048576) (h0 : ∀ p ∈ l, 0 ≤ p.f1) (ht : totOf l ≤ 4611686018427387904) : dist_total.F l = some (totOf l) :=
  ((dist_total.F_is l).iff _).2 (total_is l (by omega) h0 ht)
theorem mem_at {l : List S32} {i : Nat} (h : i < l.length) : l[i] ∈ l := List.getElem_mem h
end Go.Proofs.Ytkemhfhmlcljjaa.DistPure
end
section
namespace Go.Proofs.Ytkemhfhmlcljjaa.DistPure
set_option linter.unusedVariables false
set_option linter.unusedSimpArgs false
open Go.RowKit Go.Proofs.Ytkemhfhmlcljjaa.PQ Go.Proofs.YtkemhfhmlcljjaaW.PrintWords Go.Proofs.YtkemhfhmlcljjaaW.PrintLast Go.Proofs.YtkemhfhmlcljjaaW.PrintMore Go.Proofs.YtkemhfhmlcljjaaW.EvKit
end Go.Proofs.Ytkemhfhmlcljjaa.DistPure
end
section
namespace Go.Proofs.Ytkemhfhmlcljjaa.DistPure
set_option linter.unusedVariables false
set_option linter.unusedSimpArgs false
open Go.RowKit Go.Proofs.Ytkemhfhmlcljjaa.PQ Go.Proofs.YtkemhfhmlcljjaaW.PrintWords Go.Proofs.YtkemhfhmlcljjaaW.PrintLast Go.Proofs.YtkemhfhmlcljjaaW.PrintMore Go.Proofs.YtkemhfhmlcljjaaW.EvKit
def Outs (l : List S32) (x : List Int) : Prop := ∃ p ∈ l, p.f0 = x ∧ 0 < p.f1
theorem wOf_ge : ∀ {l : List S32}, (∀ p ∈ l, 0 ≤ p.f1) → ∀ {p : S32}, p ∈ l → p.f1 ≤ wOf l p.f0
  | [], _, p, h => by cases h
  | q :: l, h0, p, h => by
    have h1 := h0 q (by simp)
    have h2 : ∀ p ∈ l, 0 ≤ p.f1 := fun x hx => h0 x (by simp [hx])
    rw [wOf_cons]
    rcases List.mem_cons.1 h with e | e
    · subst e
      rw [if_pos rfl]
      have := (wOf_le h2 p.f0).1
      omega
    · have := wOf_ge h2 e
      split <;> omega
theorem wOf_some : ∀ {l : List S32}, (∀ p ∈ l, 0 ≤ p.f1) → ∀ {o : List Int}, 0 < wOf l o → Outs l o
  | [], _, _, h => absurd h (Int.lt_irrefl 0)
  | q :: l, h0, o, h => by
    have h1 := h0 q (by simp)
    rw [wOf_cons] at h
    by_cases c : q.f0 = o ∧ 0 < q.f1
    · exact ⟨q, by simp, c⟩
    · have h2 : 0 < wOf l o := by
        by_cases e : q.f0 = o
        · rw [if_pos e] at h
          have : ¬ 0 < q.f1 := fun x => c ⟨e, x⟩
          omega
        · rw [if_neg e] at h; omega
      obtain ⟨p, hp, e⟩ := wOf_some (fun x hx => h0 x (by simp [hx])) h2
      exact ⟨p, by simp [hp], e⟩
theorem outs_iff {l D : List S32} (h : Canon l D) (h0 : ∀ p ∈ l, 0 ≤ p.f1) (x : List Int) : Outs l x ↔ ∃ q ∈ D, q.f0 = x := by
  have d0 : ∀ p ∈ D, 0 ≤ p.f1 := fun p hp => Int.le_of_lt (h.pos p hp)
  constructor
  · rintro ⟨p, hp, e, hpos⟩
    have := wOf_ge h0 hp
    rw [e, ← h.w] at this
    exact wOf_mem (by omega)
  · rintro ⟨q, hq, e⟩
    have := wOf_ge d0 hq
    have := h.pos q hq
    subst e
    exact wOf_some h0 (by rw [← h.w]; omega)
def Least (S : List Int → Prop) (o : List Int) (f : Bool) : Prop := (f = true → S o ∧ ∀ x, S x → cmpL o x ≤ 0) ∧ (f = false → ∀ x, ¬ S x)
theorem Least.new {S S' : List Int → Prop} {o v : List Int} (h : Least S o false) (hS : ∀ x, S' x ↔ S x ∨ x = v) : Least S' v true :=
  ⟨fun _ => ⟨(hS v).2 (.inr rfl), fun x hx => by
    rcases (hS x).1 hx with h1 | h1
    · exact absurd h1 (h.2 rfl x)
    · rw [h1, cmpL_self]; exact Int.le_refl 0⟩, fun c => by cases c⟩
theorem Least.lt {S S' : List Int → Prop} {o v : List Int} (h : Least S o true) (c : cmpL v o < 0) (hS : ∀ x, S' x ↔ S x ∨ x = v) : Least S' v true :=
  ⟨fun _ => ⟨(hS v).2 (.inr rfl), fun x hx => by
    rcases (hS x).1 hx with h1 | h1
    · exact cmpL_le_trans _ _ _ (Int.le_of_lt c) ((h.1 rfl).2 x h1)
    · rw [h1, cmpL_self]; exact Int.le_refl 0⟩, fun c => by cases c⟩
theorem Least.same {S S' : List Int → Prop} {o : List Int} {f : Bool} (h : Least S o f) (hS : ∀ x, S' x ↔ S x) : Least S' o f :=
  ⟨fun c => ⟨(hS o).2 (h.1 c).1, fun x hx => (h.1 c).2 x ((hS x).1 hx)⟩, fun c x hx => h.2 c x ((hS x).1 hx)⟩
theorem take_one {l : List S32} {i : Nat} (h : i < l.length) : l.take (i + 1) = l.take i ++ [l[i]] := by
  rw [List.take_add_one, List.getElem?_eq_getElem h]; rfl
theorem one_le {l : List S32} (h0 : ∀ p ∈ l, 0 ≤ p.f1) {p : S32} (h : p ∈ l) : p.f1 ≤ totOf l := by
  have h1 := wOf_ge h0 h
  have h2 := (wOf_le h0 p.f0).2
  omega
theorem tStep_len (d : List S32) (p : S32) : (tStep d p).length ≤ d.length + 1 := by
  unfold tStep
  split
  · omega
  · split
    · split
      · rw [List.length_append, List.length_dropLast, List.length_singleton]; omega
      · rw [List.length_append, List.length_singleton]; omega
    · rw [List.length_append, List.length_singleton]; omega
theorem tFold_len : ∀ (l d : List S32), (l.foldl tStep d).length ≤ d.length + l.length
  | [], d => by simp
  | p :: l, d => by
    have := tFold_len l (tStep d p)
    have := tStep_len d p
    rw [List.foldl_cons, List.length_cons]; omega
theorem tMerge_len (l : List S32) : (tMerge (sortP l)).length ≤ l.length := by
  have := tFold_len (sortP l) []
  rw [(sortP_perm l).length_eq, List.length_nil] at this
  unfold tMerge
  omega
theorem totOf_app : ∀ (a b : List S32), totOf (a ++ b) = totOf a + totOf b
  | [], b => by rw [totOf_nil]; exact (Int.zero_add _).symm
  | p :: a, b => by rw [List.cons_append, totOf_cons, totOf_cons, totOf_app a b]; omega
theorem totOf_perm {a b : List S32} (h : a.Perm b) : totOf a = totOf b := isum_perm (h.map _)
theorem tStep_tot (d : List S32) (p : S32) : totOf (tStep d p) = totOf d + p.f1 := by
  unfold tStep
  split
  · omega
  · split
    · rename_i q hq
      obtain ⟨d0, e⟩ : ∃ d0, d = d0 ++ [q] := List.getLast?_eq_some_iff.1 hq
      subst e
      split
      · rw [List.dropLast_concat, totOf_app, totOf_app, totOf_cons, totOf_cons, totOf_nil]
        show _ + (q.f1 + p.f1 + 0) = _
        omega
      · rw [totOf_app _ [p], totOf_cons p, totOf_nil]; omega
    · rw [totOf_app, totOf_cons, totOf_nil]; omega
theorem tFold_tot : ∀ (l d : List S32), totOf (l.foldl tStep d) = totOf d + totOf l
  | [], d => by rw [totOf_nil]; exact (Int.add_zero _).symm
  | p :: l, d => by rw [List.foldl_cons, tFold_tot, tStep_tot, totOf_cons]; omega
theorem tMerge_tot (l : List S32) : totOf (tMerge (sortP l)) = totOf l := by
  unfold tMerge
  rw [tFold_tot, totOf_perm (sortP_perm l), totOf_nil]; omega
end Go.Proofs.Ytkemhfhmlcljjaa.DistPure
end
section
namespace Go.Proofs.Ytkemhfhmlcljjaa.DistPure
set_option linter.unusedVariables false
set_option linter.unusedSimpArgs false
open Go.RowKit Go.Proofs.Ytkemhfhmlcljjaa.PQ Go.Proofs.YtkemhfhmlcljjaaW.PrintWords Go.Proofs.YtkemhfhmlcljjaaW.PrintLast Go.Proofs.YtkemhfhmlcljjaaW.PrintMore Go.Proofs.YtkemhfhmlcljjaaW.EvKit
instance : DecidableEq S32 := fun p q => decidable_of_iff (p.f1 = q.f1 ∧ p.f0 = q.f0) (by cases p; cases q; simp only [S32.mk.injEq]; exact And.comm)
structure Bd (l : List S32) : Prop where
  len : l.length ≤ 1048576
  out : ∀ p ∈ l, p.f0.length ≤ 1048576
def okP (p : S32) : Bool := smallB p.f0 && (decide (0 ≤ p.f1) && decide (p.f1 ≤ 1073741824))
theorem okP_iff {p : S32} : okP p = true ↔ smallB p.f0 = true ∧ 0 ≤ p.f1 ∧ p.f1 ≤ 1073741824 := by simp [okP]
def makeP (l : List S32) : List S32 × Int := if l.all okP = true then tDone (tMerge (sortP l)) else ([], 3)
theorem all_ok {l : List S32} (h : l.all okP = true) : ∀ p ∈ l, 0 ≤ p.f1 ∧ p.f1 ≤ 1073741824 := fun p hp => (okP_iff.1 (List.all_eq_true.1 h p hp)).2
theorem all_tot {l : List S32} (h : l.all okP = true) (hl : l.length ≤ 1048576) : totOf l ≤ 4611686018427387904 := by
  have := tot_bd (all_ok h)
  omega
theorem tidyF (l : List S32) (hl : l.length ≤ 1048576) (h : l.all okP = true) : dist_tidy.F l = some (tDone (tMerge (sortP l))) := by
  rw [dist_tidy.F_eq, if_pos]
  unfold tGuard
  have := all_tot h hl
  simp only [Bool.and_eq_true, decide_eq_true_eq, List.all_eq_true]
  exact ⟨⟨by omega, fun p hp => (all_ok h p hp).1⟩, this⟩
theorem cloneF (o : List Int) (h : o.length ≤ 1048576) : slices_Clone_int_int.f o = some o := by
  unfold slices_Clone_int_int.f
  rw [if_pos (by omega)]
theorem make_loop (l : List S32) (h : Bd l) : ∀ (n i : Nat), i + n = l.length → (l.take i).all okP = true →
    dist_Make.L0 (l.take i) l (l.length : Int) (i : Int) = some (if (l.drop i).all okP = true then tDone (tMerge (sortP l)) else ([], 3)) := by
  have hl := h.len
  intro n
  induction n with
  | zero =>
    intro i hi ha
    rw [List.take_of_length_le (show l.length ≤ i by omega)] at ha ⊢
    rw [dist_Make.L0_eq, if_neg (by omega), tidyF l h.len ha, Option.bind_some, List.drop_of_length_le (show l.length ≤ i by omega)]
    rfl
  | succ n ih =>
    intro i hi ha
    have hxi : i < l.length := by omega
    have ho := h.out _ (mem_at hxi)
    rw [dist_Make.L0_eq, if_pos (by omega), if_pos (by omega), if_pos (by omega), rd32At hxi, smallF _ ho, Option.bind_some, List.drop_eq_getElem_cons hxi, List.all_cons]
    have e : okP l[i] = (smallB l[i].f0 && (decide (0 ≤ l[i].f1) && decide (l[i].f1 ≤ 1073741824))) := rfl
    cases c : smallB l[i].f0 with
    | false =>
      rw [if_neg (by decide), e, c]
      rfl
    | true =>
      rw [if_pos rfl]
      by_cases c1 : l[i].f1 < 0
      · rw [if_pos c1, if_neg]
        rw [e, decide_eq_false (show ¬ 0 ≤ l[i].f1 by omega)]
        simp
      · rw [if_neg c1]
        by_cases c2 : l[i].f1 > 1073741824
        · rw [if_pos c2, if_neg]
          rw [e, decide_eq_false (show ¬ l[i].f1 ≤ 1073741824 by omega)]
          simp
        · have hok : okP l[i] = true := okP_iff.2 ⟨c, by omega, by omega⟩
          rw [if_neg c2, cloneF _ ho, Option.bind_some, if_pos (by rw [List.length_take]; omega), hok, Bool.true_and, w1 (by omega)]
          have e2 : l.take i ++ [(⟨l[i].f0, l[i].f1⟩ : S32)] = l.take (i + 1) := (take_one hxi).symm
          rw [e2]
          exact ih (i + 1) (by omega) (by rw [take_one hxi, List.all_append, ha]; simp [hok])
theorem makeF1 (l : List S32) (h : Bd l) : dist_Make.F l = some (makeP l) := by
  rw [dist_Make.F_eq]
  exact make_loop l h l.length 0 (by omega) (by simp)
theorem tDone_bd {D : List S32} (h : Bd D) : Bd (tDone D).1 := by
  unfold tDone
  split
  · exact ⟨by simp, by simp⟩
  · split
    · exact ⟨by simp, by simp⟩
    · refine ⟨by simpa using h.len, fun p hp => ?_⟩
      obtain ⟨q, hq, rfl⟩ := List.mem_map.1 hp
      exact h.out q hq
theorem makeP_bd {l : List S32} (h : Bd l) : Bd (makeP l).1 := by
  unfold makeP
  split
  · rename_i c
    have h0 : ∀ p ∈ l, 0 ≤ p.f1 := fun p hp => (all_ok c p hp).1
    refine tDone_bd ⟨?_, fun q hq => ?_⟩
    · have := tMerge_len l
      have := h.len
      omega
    · obtain ⟨p, hp, e, _⟩ := (outs_iff (tidy_canon h0) h0 q.f0).2 ⟨q, hq, rfl⟩
      rw [← e]
      exact h.out p hp
  · exact ⟨by simp, by simp⟩
theorem s32_eq {p q : S32} : p = q ↔ p.f1 = q.f1 ∧ p.f0 = q.f0 := by
  cases p; cases q
  simp only [S32.mk.injEq]
  exact And.comm
theorem rsame_loop (a b : List S32) (ha : Bd a) (hb : Bd b) (hl : a.length = b.length) : ∀ (n i : Nat), i + n = a.length →
    hushref2_Same.L0 a b (a.length : Int) (i : Int) = some (decide (a.drop i = b.drop i)) := by
  have hla := ha.len
  intro n
  induction n with
  | zero =>
    intro i hi
    rw [hushref2_Same.L0_eq, if_neg (by omega), List.drop_of_length_le (show a.length ≤ i by omega), List.drop_of_length_le (show b.length ≤ i by omega)]
    rfl
  | succ n ih =>
    intro i hi
    have h1 : i < a.length := by omega
    have h2 : i < b.length := by omega
    rw [hushref2_Same.L0_eq, if_pos (by omega), if_pos (by omega), if_pos (by omega), if_pos (by omega), rd32At h1, rd32At h2, List.drop_eq_getElem_cons h1, List.drop_eq_getElem_cons h2]
    by_cases c1 : a[i].f1 = b[i].f1
    · rw [if_pos c1, rcmpF _ _ (ha.out _ (mem_at h1)) (hb.out _ (mem_at h2)), Option.bind_some]
      by_cases c2 : a[i].f0 = b[i].f0
      · rw [if_pos (cmpL0.2 c2), w1 (by omega), ih (i + 1) (by omega), show a[i] = b[i] from s32_eq.2 ⟨c1, c2⟩]
        congr 1
        rw [decide_eq_decide]
        exact ⟨fun h => by rw [h], fun h => by injection h⟩
      · rw [if_neg (fun h => c2 (cmpL0.1 h))]
        congr 1
        symm
        rw [decide_eq_false_iff_not]
        intro h
        injection h with h _
        exact c2 (by rw [h])
    · rw [if_neg c1]
      congr 1
      symm
      rw [decide_eq_false_iff_not]
      intro h
      injection h with h _
      exact c1 (by rw [h])
theorem rsameF (a b : List S32) (ha : Bd a) (hb : Bd b) : hushref2_Same.F a b = some (decide (a = b)) := by
  rw [hushref2_Same.F_eq]
  by_cases h : a.length = b.length
  · rw [if_pos (by omega)]
    exact rsame_loop a b ha hb h a.length 0 (by omega)
  · rw [if_neg (by omega)]
    congr 1
    symm
    rw [decide_eq_false_iff_not]
    intro e
    exact h (by rw [e])
theorem same_loop (a b : List S32) (ha : Bd a) (hb : Bd b) (hl : a.length = b.length) : ∀ (n i : Nat), i + n = a.length →
    api_Part.L0 b a (a.length : Int) (i : Int) = some (decide (a.drop i = b.drop i)) := by
  have hla := ha.len
  intro n
  induction n with
  | zero =>
    intro i hi
    rw [api_Part.L0_eq, if_neg (by omega), List.drop_of_length_le (show a.length ≤ i by omega), List.drop_of_length_le (show b.length ≤ i by omega)]
    rfl
  | succ n ih =>
    intro i hi
    have h1 : i < a.length := by omega
    have h2 : i < b.length := by omega
    rw [api_Part.L0_eq, if_pos (by omega), if_pos (by omega), if_pos (by omega), if_pos (by omega), rd32At h1, rd32At h2, List.drop_eq_getElem_cons h1, List.drop_eq_getElem_cons h2, dist_same_1.F_eq]
    by_cases c1 : a[i].f1 = b[i].f1
    · rw [if_pos c1, eqF _ _ (ha.out _ (mem_at h1)), Option.bind_some, Option.bind_some]
      by_cases c2 : a[i].f0 = b[i].f0
      · rw [if_pos (decide_eq_true c2), w1 (by omega), ih (i + 1) (by omega), show a[i] = b[i] from s32_eq.2 ⟨c1, c2⟩]
        congr 1
        rw [decide_eq_decide]
        exact ⟨fun h => by rw [h], fun h => by injection h⟩
      · rw [if_neg (by simpa using c2)]
        congr 1
        symm
        rw [decide_eq_false_iff_not]
        intro h
        injection h with h _
        exact c2 (by rw [h])
    · rw [if_neg c1, Option.bind_some, if_neg (by decide)]
      congr 1
      symm
      rw [decide_eq_false_iff_not]
      intro h
      injection h with h _
      exact c1 (by rw [h])
theorem sameF (a b : List S32) (ha : Bd a) (hb : Bd b) : dist_same.F a b = some (decide (a = b)) := by
  rw [dist_same.F_eq, api_Part.F_eq]
  by_cases h : a.length = b.length
  · rw [if_pos (by omega)]
    rw [show (0 : Int) = ((0 : Nat) : Int) from rfl, same_loop a b ha hb h a.length 0 (by omega)]
    rfl
  · rw [if_neg (by omega), Option.bind_some]
    congr 1
    symm
    rw [decide_eq_false_iff_not]
    intro e
    exact h (by rw [e])
def wrongP (d : List S32) : Int := if (makeP d).2 = 0 then (if d = (makeP d).1 then 0 else 2) else (makeP d).2
theorem wrongF (d : List S32) (h : Bd d) : dist_Wrong.F d = some (wrongP d) := by
  rw [dist_Wrong.F_eq, makeF1 d h, Option.bind_some]
  unfold wrongP
  by_cases c : (makeP d).2 = 0
  · rw [if_pos c, if_pos c, sameF _ _ h (makeP_bd h), Option.bind_some]
    by_cases c2 : d = (makeP d).1
    · rw [if_pos (decide_eq_true c2), if_pos c2, c]
    · rw [if_neg (by simpa using c2), if_neg c2]
  · rw [if_neg c, if_neg c]
structure Right (d : List S32) : Prop where
  ok : d.all okP = true
  st : Strict d
  pos : 0 < totOf d
  few : totOf d ≤ 1073741824
  much : d.length ≤ 4096
theorem div_sum (g : Int) (hg : 0 < g) : ∀ (D : List S32), totOf (D.map (fun p => (⟨p.f0, p.f1 / g⟩ : S32))) ≤ totOf D / g
  | [] => by rw [List.map_nil, totOf_nil, Int.zero_ediv]; exact Int.le_refl 0
  | p :: D => by
    have ih := div_sum g hg D
    rw [List.map_cons, totOf_cons, totOf_cons]
    have h1 := Int.ediv_mul_le p.f1 (show g ≠ 0 by omega)
    have h2 := Int.ediv_mul_le (totOf D) (show g ≠ 0 by omega)
    have h3 : p.f1 / g + totOf D / g ≤ (p.f1 + totOf D) / g := by
      rw [Int.le_ediv_iff_mul_le hg, Int.add_mul]
      omega
    show p.f1 / g + _ ≤ _
    omega
theorem right_of {d : List S32} (h : wrongP d = 0) : Right d := by
  unfold wrongP at h
  by_cases c : (makeP d).2 = 0
  · rw [if_pos c] at h
    by_cases c2 : d = (makeP d).1
    · unfold makeP at c c2
      by_cases ho : d.all okP = true
      · rw [if_pos ho] at c c2
        have h0 : ∀ p ∈ d, 0 ≤ p.f1 := fun p hp => (all_ok ho p hp).1
        have hc := tidy_canon h0
        have htot := tMerge_tot d
        unfold tDone at c c2
        by_cases e1 : tMerge (sortP d) = []
        · rw [if_pos e1] at c; cases c
        · rw [if_neg e1] at c c2
          have hg := gOf_pos hc.pos e1
          by_cases e2 : totOf (tMerge (sortP d)) / (gOf (tMerge (sortP d)) : Int) > 1073741824 ∨ (tMerge (sortP d)).length > 4096
          · rw [if_pos e2] at c; cases c
          · rw [if_neg e2] at c2
            dsimp only at c2
            have hs := div_sum (gOf (tMerge (sortP d)) : Int) (by omega) (tMerge (sortP d))
            have htot2 : 0 < totOf (tMerge (sortP d)) := by
              cases hD : tMerge (sortP d) with
              | nil => exact absurd hD e1
              | cons q D =>
                have hp := hc.pos q (by rw [hD]; simp)
                have h2 := one_le (l := tMerge (sortP d)) (fun p hp => Int.le_of_lt (hc.pos p hp)) (p := q) (by rw [hD]; simp)
                rw [hD] at h2
                omega
            refine ⟨ho, ?_, by omega, ?_, ?_⟩
            · rw [c2]
              unfold Strict
              rw [List.pairwise_map]
              exact hc.st
            · rw [← c2] at hs
              omega
            · have := congrArg List.length c2
              rw [List.length_map] at this
              omega
      · rw [if_neg ho] at c; cases c
    · rw [if_neg c2] at h; cases h
  · rw [if_neg c] at h; exact absurd h c
end Go.Proofs.Ytkemhfhmlcljjaa.DistPure
end
section
namespace Go.Proofs.Ytkemhfhmlcljjaa.DistPure
set_option linter.unusedVariables false
set_option linter.unusedSimpArgs false
open Go.RowKit Go.Proofs.Ytkemhfhmlcljjaa.PQ Go.Proofs.YtkemhfhmlcljjaaW.PrintWords Go.Proofs.YtkemhfhmlcljjaaW.PrintLast Go.Proofs.YtkemhfhmlcljjaaW.PrintMore Go.Proofs.YtkemhfhmlcljjaaW.EvKit
theorem gOf_dvd_go : ∀ (d : List S32) (g : Nat), d.foldl (fun g p => Nat.gcd p.f1.toNat g) g ∣ g ∧ ∀ p ∈ d, d.foldl (fun g p => Nat.gcd p.f1.toNat g) g ∣ p.f1.toNat
  | [], g => ⟨Nat.dvd_refl _, fun p hp => by cases hp⟩
  | q :: d, g => by
    rw [List.foldl_cons]
    obtain ⟨h1, h2⟩ := gOf_dvd_go d (Nat.gcd q.f1.toNat g)
    refine ⟨Nat.dvd_trans h1 (Nat.gcd_dvd_right _ _), fun p hp => ?_⟩
    rcases List.mem_cons.1 hp with e | e
    · rw [e]; exact Nat.dvd_trans h1 (Nat.gcd_dvd_left _ _)
    · exact h2 p e
theorem gOf_dvd {d : List S32} {p : S32} (h : p ∈ d) : gOf d ∣ p.f1.toNat := (gOf_dvd_go d 0).2 p h
theorem gOf_max_go : ∀ (d : List S32) (g n : Nat), n ∣ g → (∀ p ∈ d, n ∣ p.f1.toNat) → n ∣ d.foldl (fun g p => Nat.gcd p.f1.toNat g) g
  | [], g, n, h, _ => h
  | q :: d, g, n, h, h0 => gOf_max_go d _ n (Nat.dvd_gcd (h0 q (by simp)) h) (fun p hp => h0 p (by simp [hp]))
theorem gOf_max {d : List S32} {n : Nat} (h : ∀ p ∈ d, n ∣ p.f1.toNat) : n ∣ gOf d := gOf_max_go d 0 n (Nat.dvd_zero n) h
theorem div_pos' {p : Int} {g : Nat} (hp : 0 < p) (hg : 0 < g) (hd : g ∣ p.toNat) : ∃ m : Nat, 0 < m ∧ p / (g : Int) = (m : Int) ∧ p.toNat = g * m := by
  obtain ⟨m, hm⟩ := hd
  have e : p = ((g * m : Nat) : Int) := by rw [← hm]; omega
  refine ⟨m, ?_, ?_, hm⟩
  · rcases Nat.eq_zero_or_pos m with h | h
    · rw [h, Nat.mul_zero] at hm; omega
    · exact h
  · rw [e, Int.natCast_mul, Int.mul_ediv_cancel_left _ (by omega)]
theorem canon_self {l : List S32} (hs : Strict l) (hp : ∀ p ∈ l, 0 < p.f1) : tMerge (sortP l) = l :=
  (tidy_canon (fun p h => Int.le_of_lt (hp p h))).uniq (⟨hs, hp, fun _ => rfl⟩ : Canon l l) (fun _ => rfl)
def divG (l : List S32) : List S32 := l.map (fun p => (⟨p.f0, p.f1 / (gOf l : Int)⟩ : S32))
structure Ord (l : List S32) : Prop where
  st : Strict l
  pos : ∀ p ∈ l, 0 < p.f1
  ok : l.all okP = true
  ne : l ≠ []
  few : totOf l ≤ 1073741824
  much : l.length ≤ 4096
theorem Ord.make {l : List S32} (h : Ord l) : makeP l = (divG l, 0) := by
  have hg := gOf_pos h.pos h.ne
  have h0 : 0 ≤ totOf l := by
    cases hl : l with
    | nil => exact absurd hl h.ne
    | cons q D =>
      have h1 := one_le (l := l) (fun p hp => Int.le_of_lt (h.pos p hp)) (p := q) (by rw [hl]; simp)
      have h2 := h.pos q (by rw [hl]; simp)
      rw [← hl]; omega
  have h1 : totOf l / (gOf l : Int) ≤ totOf l := Int.ediv_le_self _ h0
  have h2 := h.few
  have h3 := h.much
  unfold makeP
  rw [if_pos h.ok, canon_self h.st h.pos]
  unfold tDone
  rw [if_neg h.ne, if_neg (by omega)]
  rfl
theorem Ord.mem {l : List S32} (h : Ord l) {q : S32} (hq : q ∈ divG l) : ∃ p ∈ l, ∃ m : Nat, 0 < m ∧ q = ⟨p.f0, (m : Int)⟩ ∧ p.f1 = ((gOf l * m : Nat) : Int) := by
  obtain ⟨p, hp, rfl⟩ := List.mem_map.1 hq
  obtain ⟨m, h1, h2, h3⟩ := div_pos' (h.pos p hp) (gOf_pos h.pos h.ne) (gOf_dvd hp)
  have h4 := h.pos p hp
  exact ⟨p, hp, m, h1, by rw [h2], by omega⟩
theorem wOf_map (g : Nat) (hg : 0 < g) (o : List Int) : ∀ (L : List S32), (∀ p ∈ L, 0 < p.f1 ∧ g ∣ p.f1.toNat) → wOf (L.map (fun p => (⟨p.f0, p.f1 / (g : Int)⟩ : S32))) o * (g : Int) = wOf L o
  | [], _ => by simp [wOf, isum]
  | p :: L, h => by
    have ih := wOf_map g hg o L (fun q hq => h q (by simp [hq]))
    obtain ⟨h1, h2⟩ := h p (by simp)
    obtain ⟨m, _, e, e'⟩ := div_pos' h1 hg h2
    have e2 : p.f1 / (g : Int) * (g : Int) = p.f1 := by
      rw [e, ← Int.natCast_mul, Nat.mul_comm]; omega
    rw [List.map_cons, wOf_cons, wOf_cons, Int.add_mul, ih]
    by_cases c : p.f0 = o
    · rw [if_pos c, if_pos c, e2]
    · rw [if_neg c, if_neg c, Int.zero_mul]
theorem tot_map (g : Nat) (hg : 0 < g) : ∀ (L : List S32), (∀ p ∈ L, 0 < p.f1 ∧ g ∣ p.f1.toNat) → totOf (L.map (fun p => (⟨p.f0, p.f1 / (g : Int)⟩ : S32))) * (g : Int) = totOf L
  | [], _ => by rw [List.map_nil, totOf_nil, Int.zero_mul]
  | p :: L, h => by
    have ih := tot_map g hg L (fun q hq => h q (by simp [hq]))
    obtain ⟨h1, h2⟩ := h p (by simp)
    obtain ⟨m, _, e, e'⟩ := div_pos' h1 hg h2
    have e2 : p.f1 / (g : Int) * (g : Int) = p.f1 := by
      rw [e, ← Int.natCast_mul, Nat.mul_comm]; omega
    rw [List.map_cons, totOf_cons, totOf_cons, Int.add_mul, ih]
    show p.f1 / (g : Int) * (g : Int) + _ = _
    rw [e2]
theorem Ord.all {l : List S32} (h : Ord l) : ∀ p ∈ l, 0 < p.f1 ∧ gOf l ∣ p.f1.toNat := fun p hp => ⟨h.pos p hp, gOf_dvd hp⟩
theorem Ord.w {l : List S32} (h : Ord l) (o : List Int) : wOf (divG l) o * (gOf l : Int) = wOf l o := wOf_map (gOf l) (gOf_pos h.pos h.ne) o l h.all
theorem Ord.t {l : List S32} (h : Ord l) : totOf (divG l) * (gOf l : Int) = totOf l := tot_map (gOf l) (gOf_pos h.pos h.ne) l h.all
theorem Ord.g1 {l : List S32} (h : Ord l) : gOf (divG l) = 1 := by
  have hg := gOf_pos h.pos h.ne
  have h1 : gOf l * gOf (divG l) ∣ gOf l := gOf_max (fun q hq => by
    obtain ⟨m, _, h2, h3⟩ := div_pos' (h.pos q hq) hg (gOf_dvd hq)
    have h4 := gOf_dvd (List.mem_map.2 ⟨q, hq, rfl⟩ : (⟨q.f0, q.f1 / (gOf l : Int)⟩ : S32) ∈ divG l)
    rw [h3]
    refine Nat.mul_dvd_mul_left _ ?_
    have h5 : (q.f1 / (gOf l : Int)).toNat = m := by rw [h2]; omega
    rw [← h5]
    exact h4)
  have h2 := Nat.le_of_dvd hg h1
  have h3 : 0 < gOf (divG l) := by
    refine gOf_pos (fun p hp => ?_) (by unfold divG; simpa using h.ne)
    obtain ⟨_, _, m, h1, rfl, _⟩ := h.mem hp
    show (0 : Int) < m
    omega
  generalize gOf (divG l) = x at *
  rcases Nat.lt_or_ge 1 x with c | c
  · have := Nat.mul_lt_mul_of_pos_left c hg
    omega
  · omega
theorem Ord.div {l : List S32} (h : Ord l) : Ord (divG l) := by
  have hg := gOf_pos h.pos h.ne
  refine ⟨?_, ?_, ?_, by unfold divG; simpa using h.ne, ?_, by unfold divG; rw [List.length_map]; exact h.much⟩
  · unfold Strict divG
    rw [List.pairwise_map]
    exact h.st
  · intro p hp
    obtain ⟨_, _, m, h1, rfl, _⟩ := h.mem hp
    show (0 : Int) < m
    omega
  · rw [List.all_eq_true]
    intro q hq
    obtain ⟨p, hp, m, h1, rfl, e⟩ := h.mem hq
    obtain ⟨k1, k2, k3⟩ := okP_iff.1 (List.all_eq_true.1 h.ok p hp)
    have : m ≤ gOf l * m := Nat.le_mul_of_pos_left m hg
    refine okP_iff.2 ⟨k1, ?_, ?_⟩
    · show (0 : Int) ≤ m
      omega
    · show (m : Int) ≤ 1073741824
      omega
  · have := div_sum (gOf l : Int) (by omega) l
    have h2 := h.few
    have h1 : totOf l / (gOf l : Int) ≤ totOf l := by
      refine Int.ediv_le_self _ ?_
      cases hl : l with
      | nil => exact absurd hl h.ne
      | cons q D =>
        have h1 := one_le (l := l) (fun p hp => Int.le_of_lt (h.pos p hp)) (p := q) (by rw [hl]; simp)
        have h2 := h.pos q (by rw [hl]; simp)
        rw [← hl]; omega
    unfold divG
    omega
theorem Ord.wrong {l : List S32} (h : Ord l) : wrongP (divG l) = 0 := by
  have e : divG (divG l) = divG l := by
    have h1 := h.g1
    have e2 : divG (divG l) = (divG l).map (fun p => (⟨p.f0, p.f1 / (gOf (divG l) : Int)⟩ : S32)) := rfl
    rw [e2, h1]
    have e3 : ∀ L : List S32, L.map (fun p => (⟨p.f0, p.f1 / ((1 : Nat) : Int)⟩ : S32)) = L := fun L => by
      induction L with
      | nil => rfl
      | cons p L ih =>
        rw [List.map_cons, ih]
        congr 1
        have : p.f1 / ((1 : Nat) : Int) = p.f1 := by rw [Int.natCast_one, Int.ediv_one]
        rw [this]
    exact e3 _
  unfold wrongP
  rw [h.div.make, e]
  simp
theorem Ord.bd {l : List S32} (h : Ord l) (hb : Bd l) : Bd (divG l) := by
  have := makeP_bd hb
  rw [h.make] at this
  exact this
end Go.Proofs.Ytkemhfhmlcljjaa.DistPure
end
section
namespace Go.Proofs.Ytkemhfhmlcljjaa.DistPure
set_option linter.unusedVariables false
set_option linter.unusedSimpArgs false
open Go.RowKit Go.Proofs.Ytkemhfhmlcljjaa.PQ Go.Proofs.YtkemhfhmlcljjaaW.PrintWords Go.Proofs.YtkemhfhmlcljjaaW.PrintLast Go.Proofs.YtkemhfhmlcljjaaW.PrintMore Go.Proofs.YtkemhfhmlcljjaaW.EvKit
theorem g1_of {l : List S32} (hp : ∀ p ∈ l, 0 < p.f1) (hn : l ≠ []) : gOf (divG l) = 1 := by
  have hg := gOf_pos hp hn
  have h1 : gOf l * gOf (divG l) ∣ gOf l := gOf_max (fun q hq => by
    obtain ⟨m, _, h2, h3⟩ := div_pos' (hp q hq) hg (gOf_dvd hq)
    have h4 := gOf_dvd (List.mem_map.2 ⟨q, hq, rfl⟩ : (⟨q.f0, q.f1 / (gOf l : Int)⟩ : S32) ∈ divG l)
    rw [h3]
    refine Nat.mul_dvd_mul_left _ ?_
    have h5 : (q.f1 / (gOf l : Int)).toNat = m := by rw [h2]; omega
    rw [← h5]
    exact h4)
  have h2 := Nat.le_of_dvd hg h1
  have h3 : 0 < gOf (divG l) := by
    refine gOf_pos (fun p hp' => ?_) (by unfold divG; simpa using hn)
    obtain ⟨q, hq, rfl⟩ := List.mem_map.1 hp'
    obtain ⟨m, h1, h2, _⟩ := div_pos' (hp q hq) hg (gOf_dvd hq)
    show 0 < q.f1 / (gOf l : Int)
    omega
  generalize gOf (divG l) = x at *
  rcases Nat.lt_or_ge 1 x with c | c
  · have := Nat.mul_lt_mul_of_pos_left c hg
    omega
  · omega
theorem divG_same {l : List S32} (h : gOf l = 1) : divG l = l := by
  unfold divG
  rw [h]
  have e3 : ∀ L : List S32, L.map (fun p => (⟨p.f0, p.f1 / ((1 : Nat) : Int)⟩ : S32)) = L := fun L => by
    induction L with
    | nil => rfl
    | cons p L ih =>
      rw [List.map_cons, ih]
      congr 1
      have : p.f1 / ((1 : Nat) : Int) = p.f1 := by rw [Int.natCast_one, Int.ediv_one]
      rw [this]
  exact e3 l
theorem make_right' {l : List S32} (h : (makeP l).2 = 0) : wrongP (makeP l).1 = 0 ∧ ∃ g : Nat, 0 < g ∧ (∀ o, wOf (makeP l).1 o * (g : Int) = wOf l o) ∧ totOf (makeP l).1 * (g : Int) = totOf l := by
  unfold makeP at h ⊢
  by_cases ho : l.all okP = true
  · rw [if_pos ho] at h ⊢
    have h0 : ∀ p ∈ l, 0 ≤ p.f1 := fun p hp => (all_ok ho p hp).1
    have hc := tidy_canon h0
    have htot := tMerge_tot l
    have hout : ∀ q ∈ tMerge (sortP l), smallB q.f0 = true := fun q hq => by
      obtain ⟨p, hp, e, _⟩ := (outs_iff hc h0 q.f0).2 ⟨q, hq, rfl⟩
      rw [← e]
      exact (okP_iff.1 (List.all_eq_true.1 ho p hp)).1
    generalize hD : tMerge (sortP l) = D at *
    unfold tDone at h ⊢
    by_cases e1 : D = []
    · rw [if_pos e1] at h; cases h
    · rw [if_neg e1] at h ⊢
      by_cases e2 : totOf D / (gOf D : Int) > 1073741824 ∨ D.length > 4096
      · rw [if_pos e2] at h; cases h
      · rw [if_neg e2]
        have hg := gOf_pos hc.pos e1
        have all : ∀ p ∈ D, 0 < p.f1 ∧ gOf D ∣ p.f1.toNat := fun p hp => ⟨hc.pos p hp, gOf_dvd hp⟩
        have hs := div_sum (gOf D : Int) (by omega) D
        have ps : ∀ p ∈ divG D, 0 < p.f1 := fun p hp => by
          obtain ⟨q, hq, rfl⟩ := List.mem_map.1 hp
          obtain ⟨m, h1, h2, _⟩ := div_pos' (hc.pos q hq) hg (gOf_dvd hq)
          show 0 < q.f1 / (gOf D : Int)
          omega
        have hO : Ord (divG D) := by
          refine ⟨?_, ps, ?_, by unfold divG; simpa using e1, ?_, by unfold divG; rw [List.length_map]; omega⟩
          · unfold Strict divG
            rw [List.pairwise_map]
            exact hc.st
          · rw [List.all_eq_true]
            intro q hq
            have h3 := one_le (l := divG D) (fun p hp => Int.le_of_lt (ps p hp)) hq
            have h4 := ps q hq
            have h5 : totOf (divG D) ≤ totOf D / (gOf D : Int) := hs
            obtain ⟨p, hp, rfl⟩ := List.mem_map.1 hq
            exact okP_iff.2 ⟨hout p hp, by omega, by omega⟩
          · have h5 : totOf (divG D) ≤ totOf D / (gOf D : Int) := hs
            omega
        have hg1 := g1_of hc.pos e1
        constructor
        · show wrongP (divG D) = 0
          unfold wrongP
          rw [hO.make, divG_same hg1]
          simp
        · refine ⟨gOf D, hg, fun o => ?_, ?_⟩
          · exact (wOf_map (gOf D) hg o D all).trans (hc.w o)
          · exact (tot_map (gOf D) hg D all).trans htot
  · rw [if_neg ho] at h; cases h
end Go.Proofs.Ytkemhfhmlcljjaa.DistPure
end
section
namespace Go.Proofs.Ytkemhfhmlcljjaa.DistPure
set_option linter.unusedVariables false
set_option linter.unusedSimpArgs false
open Go.RowKit Go.Proofs.Ytkemhfhmlcljjaa.PQ Go.Proofs.YtkemhfhmlcljjaaW.PrintWords Go.Proofs.YtkemhfhmlcljjaaW.PrintLast Go.Proofs.YtkemhfhmlcljjaaW.PrintMore Go.Proofs.YtkemhfhmlcljjaaW.EvKit
theorem right_form {d : List S32} (h : wrongP d = 0) : ∃ D : List S32, (∀ p ∈ D, 0 < p.f1) ∧ D ≠ [] ∧ d = D.map (fun p => (⟨p.f0, p.f1 / (gOf D : Int)⟩ : S32)) := by
  unfold wrongP at h
  by_cases c : (makeP d).2 = 0
  · rw [if_pos c] at h
    by_cases c2 : d = (makeP d).1
    · unfold makeP at c c2
      by_cases ho : d.all okP = true
      · rw [if_pos ho] at c c2
        have hc := tidy_canon (fun p hp => (all_ok ho p hp).1)
        unfold tDone at c c2
        by_cases e1 : tMerge (sortP d) = []
        · rw [if_pos e1] at c; cases c
        · rw [if_neg e1] at c c2
          by_cases e2 : totOf (tMerge (sortP d)) / (gOf (tMerge (sortP d)) : Int) > 1073741824 ∨ (tMerge (sortP d)).length > 4096
          · rw [if_pos e2] at c; cases c
          · rw [if_neg e2] at c2
            exact ⟨_, hc.pos, e1, c2⟩
      · rw [if_neg ho] at c; cases c
    · rw [if_neg c2] at h; cases h
  · rw [if_neg c] at h; exact absurd h c
theorem right_more {d : List S32} (h : wrongP d = 0) : (∀ p ∈ d, 0 < p.f1) ∧ gOf d = 1 := by
  obtain ⟨D, h0, hn, rfl⟩ := right_form h
  have hg := gOf_pos h0 hn
  have key : ∀ p ∈ D, ∃ m : Nat, 0 < m ∧ p.f1 / (gOf D : Int) = (m : Int) ∧ p.f1.toNat = gOf D * m := fun p hp => div_pos' (h0 p hp) hg (gOf_dvd hp)
  constructor
  · intro p hp
    obtain ⟨q, hq, rfl⟩ := List.mem_map.1 hp
    obtain ⟨m, h1, h2, _⟩ := key q hq
    show 0 < q.f1 / (gOf D : Int)
    omega
  · have h1 : gOf D * gOf (D.map (fun p => (⟨p.f0, p.f1 / (gOf D : Int)⟩ : S32))) ∣ gOf D := gOf_max (fun q hq => by
      obtain ⟨m, _, h2, h3⟩ := key q hq
      have h4 := gOf_dvd (List.mem_map.2 ⟨q, hq, rfl⟩ : (⟨q.f0, q.f1 / (gOf D : Int)⟩ : S32) ∈ D.map (fun p => (⟨p.f0, p.f1 / (gOf D : Int)⟩ : S32)))
      rw [h3]
      refine Nat.mul_dvd_mul_left _ ?_
      have h5 : (q.f1 / (gOf D : Int)).toNat = m := by rw [h2]; omega
      rw [← h5]
      exact h4)
    have h2 := Nat.le_of_dvd hg h1
    have h3 : 0 < gOf (D.map (fun p => (⟨p.f0, p.f1 / (gOf D : Int)⟩ : S32))) := by
      refine gOf_pos (fun p hp => ?_) (by simpa using hn)
      obtain ⟨q, hq, rfl⟩ := List.mem_map.1 hp
      obtain ⟨m, h1, h2, _⟩ := key q hq
      show 0 < q.f1 / (gOf D : Int)
      omega
    generalize gOf (D.map (fun p => (⟨p.f0, p.f1 / (gOf D : Int)⟩ : S32))) = x at *
    rcases Nat.lt_or_ge 1 x with c | c
    · have := Nat.mul_lt_mul_of_pos_left c hg
      omega
    · omega
def pw (a b : List S32) (o : List Int) : Int × Int := (wOf a o, wOf b o)
theorem wOf_hit {p : S32} {a : List S32} (h : Strict (p :: a)) : wOf (p :: a) p.f0 = p.f1 := by rw [wOf_cons, if_pos rfl, strict_head h, Int.add_zero]
theorem lt_ne {a b : List Int} (h : cmpL a b < 0) : a ≠ b := fun e => by rw [e, cmpL_self] at h; exact absurd h (Int.lt_irrefl 0)
end Go.Proofs.Ytkemhfhmlcljjaa.DistPure
end
section
namespace Go.Proofs.Ytkemhfhmlcljjaa.DistPure
set_option linter.unusedVariables false
set_option linter.unusedSimpArgs false
open Go.RowKit Go.Proofs.Ytkemhfhmlcljjaa.PQ Go.Proofs.YtkemhfhmlcljjaaW.PrintWords Go.Proofs.YtkemhfhmlcljjaaW.PrintLast Go.Proofs.YtkemhfhmlcljjaaW.PrintMore Go.Proofs.YtkemhfhmlcljjaaW.EvKit
def le2 (f g : Nat × Nat) : Prop := f.1 * g.2 ≤ g.1 * f.2
def pos2 (f : Nat × Nat) : Prop := 1 ≤ f.1 ∧ 1 ≤ f.2
theorem le2_refl (f : Nat × Nat) : le2 f f := Nat.le_refl _
theorem le2_trans {f g h : Nat × Nat} (hg : 1 ≤ g.2) (h1 : le2 f g) (h2 : le2 g h) : le2 f h := by
  unfold le2 at *
  have a : f.1 * g.2 * h.2 ≤ g.1 * f.2 * h.2 := Nat.mul_le_mul_right _ h1
  have b : g.1 * h.2 * f.2 ≤ h.1 * g.2 * f.2 := Nat.mul_le_mul_right _ h2
  have c : f.1 * h.2 * g.2 ≤ h.1 * f.2 * g.2 := by
    calc f.1 * h.2 * g.2 = f.1 * g.2 * h.2 := by rw [Nat.mul_assoc, Nat.mul_comm h.2, ← Nat.mul_assoc]
      _ ≤ g.1 * f.2 * h.2 := a
      _ = g.1 * h.2 * f.2 := by rw [Nat.mul_assoc, Nat.mul_comm f.2, ← Nat.mul_assoc]
      _ ≤ h.1 * g.2 * f.2 := b
      _ = h.1 * f.2 * g.2 := by rw [Nat.mul_assoc, Nat.mul_comm g.2, ← Nat.mul_assoc]
  exact Nat.le_of_mul_le_mul_right c hg
structure Mx (s : Nat × Nat) (F : List (Nat × Nat)) : Prop where
  pos : pos2 s
  one : le2 (1, 1) s
  ub : ∀ f ∈ F, le2 f s
  got : le2 s (1, 1) ∨ ∃ f ∈ F, le2 s f
theorem Mx.start : Mx (1, 1) [] := ⟨⟨Nat.le_refl _, Nat.le_refl _⟩, le2_refl _, fun f hf => (by cases hf), .inl (le2_refl _)⟩
theorem Mx.take {s f t : Nat × Nat} {F : List (Nat × Nat)} (h : Mx s F) (ht : pos2 t) (hf : le2 s f) (h1 : le2 f t) (h2 : le2 t f) (hfp : pos2 f) : Mx t (F ++ [f]) :=
  ⟨ht, le2_trans hfp.2 (le2_trans h.pos.2 h.one hf) h1, fun g hg => by
    rcases List.mem_append.1 hg with hg | hg
    · exact le2_trans hfp.2 (le2_trans h.pos.2 (h.ub g hg) hf) h1
    · rw [List.mem_singleton.1 hg]; exact h1, .inr ⟨f, by simp, h2⟩⟩
theorem Mx.le {s t : Nat × Nat} {F G : List (Nat × Nat)} (h : Mx s F) (k : Mx t G) (hF : ∀ f ∈ F, pos2 f ∧ ∃ g ∈ G, pos2 g ∧ le2 f g) : le2 s t := by
  rcases h.got with c | ⟨f, hf, c⟩
  · exact le2_trans (Nat.le_refl 1) c k.one
  · obtain ⟨h1, g, hg, h2, h3⟩ := hF f hf
    exact le2_trans h1.2 c (le2_trans h2.2 h3 (k.ub g hg))
def uv (ta tb : Nat) (x : Int × Int) : Nat × Nat := (x.1.toNat * tb, x.2.toNat * ta)
def two (ta tb : Nat) (x : Int × Int) : List (Nat × Nat) := [uv ta tb x, (uv ta tb x).swap]
end Go.Proofs.Ytkemhfhmlcljjaa.DistPure
end
section
namespace Go.Proofs.Ytkemhfhmlcljjaa.DistPure
open Go.RowKit Go.Proofs.Ytkemhfhmlcljjaa.PQ Go.Proofs.YtkemhfhmlcljjaaW.PrintWords Go.Proofs.YtkemhfhmlcljjaaW.PrintLast Go.Proofs.YtkemhfhmlcljjaaW.PrintMore Go.Proofs.YtkemhfhmlcljjaaW.EvKit
set_option linter.unusedVariables false
set_option linter.unusedSimpArgs false
end Go.Proofs.Ytkemhfhmlcljjaa.DistPure
end
section
namespace Go.Proofs.Ytkemhfhmlcljjaa.DistPure
set_option linter.unusedVariables false
set_option linter.unusedSimpArgs false
open Go.RowKit Go.Proofs.Ytkemhfhmlcljjaa.PQ Go.Proofs.YtkemhfhmlcljjaaW.PrintWords Go.Proofs.YtkemhfhmlcljjaaW.PrintLast Go.Proofs.YtkemhfhmlcljjaaW.PrintMore Go.Proofs.YtkemhfhmlcljjaaW.EvKit
structure RD (d : List S32) : Prop where
  bd : Bd d
  wr : wrongP d = 0
theorem RD.right {d : List S32} (h : RD d) : Right d := right_of h.wr
theorem RD.pw {d : List S32} (h : RD d) : ∀ p ∈ d, 0 < p.f1 := (right_more h.wr).1
theorem RD.nn {d : List S32} (h : RD d) : ∀ p ∈ d, 0 ≤ p.f1 := fun p hp => Int.le_of_lt (h.pw p hp)
theorem RD.tD {d : List S32} (h : RD d) : dist_total.F d = some (totOf d) := totF d h.bd.len h.nn (by have := h.right.few; omega)
theorem RD.wbd {d : List S32} (h : RD d) (o : List Int) : 0 ≤ wOf d o ∧ wOf d o ≤ 1073741824 := by
  have := wOf_le h.nn o
  have := h.right.few
  omega
structure Two (a b : List S32) : Prop where
  a : RD a
  b : RD b
theorem Two.t {a b : List S32} (h : Two a b) : ∃ ta tb : Nat, totOf a = (ta : Int) ∧ totOf b = (tb : Int) ∧ 1 ≤ ta ∧ ta ≤ 1073741824 ∧ 1 ≤ tb ∧ tb ≤ 1073741824 := by
  have h1 := h.a.right
  have h2 := h.b.right
  refine ⟨(totOf a).toNat, (totOf b).toNat, ?_⟩
  have := h1.pos; have := h1.few; have := h2.pos; have := h2.few
  omega
end Go.Proofs.Ytkemhfhmlcljjaa.DistPure
end
section
namespace Go.Proofs.Ytkemhfhmlcljjaa.DistPure
set_option linter.unusedVariables false
set_option linter.unusedSimpArgs false
open Go.RowKit Go.Proofs.Ytkemhfhmlcljjaa.PQ Go.Proofs.YtkemhfhmlcljjaaW.PrintWords Go.Proofs.YtkemhfhmlcljjaaW.PrintLast Go.Proofs.YtkemhfhmlcljjaaW.PrintMore Go.Proofs.YtkemhfhmlcljjaaW.EvKit
theorem dvd_all {d : List S32} {n : Nat} (hs : Strict d) (h : ∀ o, n ∣ (wOf d o).toNat) : n ∣ gOf d := by
  refine gOf_max (fun p hp => ?_)
  have e : wOf d p.f0 = p.f1 := by
    obtain ⟨x, y, rfl⟩ := List.append_of_mem hp
    have hs' := List.pairwise_append.1 hs
    have h1 : wOf x p.f0 = 0 := wOf_none _ _ (fun q hq => lt_ne (hs'.2.2 q hq p (by simp)))
    have h2 := wOf_hit hs'.2.1
    unfold wOf at *
    rw [List.map_append, isum_app]
    omega
  have := h p.f0
  rw [e] at this
  exact this
theorem same_of {a b : List S32} (h : Two a b) {ta tb : Nat} (ea : totOf a = (ta : Int)) (eb : totOf b = (tb : Int)) (a1 : 1 ≤ ta) (b1 : 1 ≤ tb) (hw : ∀ o, (wOf a o).toNat * tb = (wOf b o).toNat * ta) : a = b := by
  obtain ⟨d, hd⟩ : ∃ d, Nat.gcd ta tb = d := ⟨_, rfl⟩
  have g0 : 0 < d := by rw [← hd]; exact Nat.gcd_pos_of_pos_left _ a1
  obtain ⟨p, hp⟩ : d ∣ ta := by rw [← hd]; exact Nat.gcd_dvd_left ta tb
  obtain ⟨q, hq⟩ : d ∣ tb := by rw [← hd]; exact Nat.gcd_dvd_right ta tb
  have hc : Nat.gcd p q = 1 := by
    have h1 : d * Nat.gcd p q = d * 1 := by
      rw [← Nat.gcd_mul_left, ← hp, ← hq, hd, Nat.mul_one]
    exact Nat.eq_of_mul_eq_mul_left g0 h1
  have hw' : ∀ o, (wOf a o).toNat * q = (wOf b o).toNat * p := fun o => by
    have h1 := hw o
    rw [hp, hq] at h1
    have h2 : d * ((wOf a o).toNat * q) = d * ((wOf b o).toNat * p) := by
      rw [Nat.mul_left_comm d, Nat.mul_left_comm d]; exact h1
    exact Nat.eq_of_mul_eq_mul_left g0 h2
  have p1 : p = 1 := by
    have hd : p ∣ gOf a := dvd_all h.a.right.st (fun o => Nat.Coprime.dvd_of_dvd_mul_right hc ⟨(wOf b o).toNat, by rw [hw' o, Nat.mul_comm]⟩)
    rw [(right_more h.a.wr).2] at hd
    exact Nat.dvd_one.1 hd
  have q1 : q = 1 := by
    have hd : q ∣ gOf b := dvd_all h.b.right.st (fun o => Nat.Coprime.dvd_of_dvd_mul_right (by rw [Nat.Coprime, Nat.gcd_comm]; exact hc) ⟨(wOf a o).toNat, by rw [← hw' o, Nat.mul_comm]⟩)
    rw [(right_more h.b.wr).2] at hd
    exact Nat.dvd_one.1 hd
  refine uniq_of a b h.a.right.st h.b.right.st h.a.pw h.b.pw (fun o => ?_)
  have h1 := hw' o
  rw [p1, q1, Nat.mul_one, Nat.mul_one] at h1
  have h2 := (h.a.wbd o).1
  have h3 := (h.b.wbd o).1
  omega
end Go.Proofs.Ytkemhfhmlcljjaa.DistPure
end
section
namespace Go.Proofs.Ytkemhfhmlcljjaa.PQ
open Go.RowKit Go.Proofs.YtkemhfhmlcljjaaW.PrintWords Go.Proofs.YtkemhfhmlcljjaaW.PrintLast Go.Proofs.YtkemhfhmlcljjaaW.PrintMore
open Go.Proofs.YtkemhfhmlcljjaaW.EvKit
set_option linter.unusedVariables false
noncomputable def plain_Bind.F (l0 : List S32) (l1 : List S45) : Option (List S32 × Int) := lim (fun k => plain_Bind.f k l0 l1)
theorem plain_Bind.F_is (l0 : List S32) (l1 : List S45) : LimIs (fun k => plain_Bind.f k l0 l1) (plain_Bind.F l0 l1) := ⟨fun k => plain_Bind.mono l0 l1 k, rfl⟩
set_option maxRecDepth 100000 in
theorem plain_Bind.F_eq (l0 : List S32) (l1 : List S45) : plain_Bind.F l0 l1 = dist_Bind.F l0 l1 := by
  refine LimIs.out (?_ : LimIs (fun k => dist_Bind.f k l0 l1) _)
  repeat' first
    | (with_reducible exact dist_Bind.F_is _ _)
    | (with_reducible exact LimIs.const _)
    | (with_reducible refine LimIs.ite ?_ ?_)
    | (with_reducible refine LimIs.bind ?_ (fun _ => ?_))
    | exact dist_Bind.F_is _ _
    | exact LimIs.const _
    | refine LimIs.ite ?_ ?_
    | refine LimIs.bind ?_ (fun _ => ?_)
end Go.Proofs.Ytkemhfhmlcljjaa.PQ
end
section
namespace Go.Proofs.Ytkemhfhmlcljjaa.DistPure
set_option linter.unusedVariables false
set_option linter.unusedSimpArgs false
open Go.RowKit Go.Proofs.Ytkemhfhmlcljjaa.PQ Go.Proofs.YtkemhfhmlcljjaaW.PrintWords Go.Proofs.YtkemhfhmlcljjaaW.PrintLast Go.Proofs.YtkemhfhmlcljjaaW.PrintMore Go.Proofs.YtkemhfhmlcljjaaW.EvKit
def thenP : List S45 → List Int → List S32
  | [], o => [⟨o, 1⟩]
  | p :: l, o => if p.f0 = o then p.f1 else thenP l o
structure FBd (l : List S45) : Prop where
  len : l.length ≤ 1048576
  frm : ∀ p ∈ l, p.f0.length ≤ 1048576
  bd : ∀ p ∈ l, Bd p.f1
theorem thenP_bd : ∀ (l : List S45) (o : List Int), (∀ p ∈ l, Bd p.f1) → o.length ≤ 1048576 → Bd (thenP l o)
  | [], o, _, ho => ⟨by simp [thenP], fun p hp => by rw [thenP] at hp; rw [List.mem_singleton.1 hp]; exact ho⟩
  | p :: l, o, h, ho => by
    rw [thenP]
    split
    · exact h p (by simp)
    · exact thenP_bd l o (fun q hq => h q (by simp [hq])) ho
theorem rd45At {xs : List S45} {i : Nat} (h : i < xs.length) : rd_T45 xs (i : Int) = xs[i] := by
  unfold rd_T45
  rw [Int.toNat_natCast, List.getD_eq_getElem?_getD, List.getElem?_eq_getElem h]; rfl
theorem then_loop (l : List S45) (hl : FBd l) (o : List Int) : ∀ (m i : Nat), i + m = l.length →
    plain_Then.L0 o l (l.length : Int) (i : Int) = some (thenP (l.drop i) o) := by
  have hlen := hl.len
  intro m
  induction m with
  | zero =>
    intro i hi
    rw [plain_Then.L0_eq, if_neg (by omega), List.drop_of_length_le (by omega)]; rfl
  | succ m ih =>
    intro i hi
    have hx : i < l.length := by omega
    have hf := hl.frm _ (List.getElem_mem hx)
    rw [plain_Then.L0_eq, if_pos (by omega), if_pos (by omega), if_pos (by omega), rd45At hx, eqF _ _ hf, Option.bind_some, List.drop_eq_getElem_cons hx, thenP]
    by_cases c : l[i].f0 = o
    · rw [decide_eq_true c, if_pos rfl, if_pos c]
    · rw [decide_eq_false c, if_neg (by decide), if_neg c, w1 (by omega)]
      exact ih (i + 1) (by omega)
theorem thenF (l : List S45) (hl : FBd l) (o : List Int) : plain_Then.F l o = some (thenP l o) := by
  have h := then_loop l hl o l.length 0 (by omega)
  rw [plain_Then.F_eq]
  exact h
def allP (fs : List S45) : List S32 → Nat → Int × Nat
  | [], a => (0, a)
  | p :: d, a => if wrongP (thenP fs p.f0) = 0 then (if a / Nat.gcd a (totOf (thenP fs p.f0)).toNat * (totOf (thenP fs p.f0)).toNat > 1073741824 then (4, a) else allP fs d (a / Nat.gcd a (totOf (thenP fs p.f0)).toNat * (totOf (thenP fs p.f0)).toNat)) else (wrongP (thenP fs p.f0), a)
def rowP (fs : List S45) (a : Nat) (p : S32) : List S32 := (thenP fs p.f0).map (fun q => (⟨q.f0, p.f1 * ((a : Int) / totOf (thenP fs p.f0)) * q.f1⟩ : S32))
def bindL (fs : List S45) (a : Nat) (d : List S32) : List S32 := d.flatMap (rowP fs a)
theorem allP_dvd (fs : List S45) : ∀ (d : List S32) (a : Nat), (allP fs d a).1 = 0 → a ∣ (allP fs d a).2 ∧ ∀ p ∈ d, wrongP (thenP fs p.f0) = 0 ∧ (totOf (thenP fs p.f0)).toNat ∣ (allP fs d a).2
  | [], a, _ => ⟨Nat.dvd_refl a, fun p hp => by cases hp⟩
  | p :: d, a, h => by
    rw [allP] at h ⊢
    by_cases c : wrongP (thenP fs p.f0) = 0
    · rw [if_pos c] at h ⊢
      generalize hn : (totOf (thenP fs p.f0)).toNat = n at *
      by_cases c2 : a / Nat.gcd a n * n > 1073741824
      · rw [if_pos c2] at h; cases h
      · rw [if_neg c2] at h ⊢
        obtain ⟨h1, h2⟩ := allP_dvd fs d _ h
        have e : a / Nat.gcd a n * n = Nat.lcm a n := Nat.div_mul_right_comm (Nat.gcd_dvd_left a n) n
        rw [e] at h1 h2 ⊢
        refine ⟨Nat.dvd_trans (Nat.dvd_lcm_left a n) h1, fun q hq => ?_⟩
        rcases List.mem_cons.1 hq with e2 | e2
        · rw [e2, hn]
          exact ⟨c, Nat.dvd_trans (Nat.dvd_lcm_right a n) h1⟩
        · exact h2 q e2
    · rw [if_neg c] at h; exact absurd h c
theorem rdL3At {xs : List (List S32)} {i : Nat} (h : i < xs.length) : rd_L3 xs (i : Int) = xs[i] := by
  unfold rd_L3
  rw [Int.toNat_natCast, List.getD_eq_getElem?_getD, List.getElem?_eq_getElem h]; rfl
theorem dgcdN (x y : Nat) : dist_gcd.F (x : Int) (y : Int) = some ((Nat.gcd y x : Nat) : Int) := ((dist_gcd.F_is _ _).iff _).2 (gcd_is x y)
theorem tidyF2 (l : List S32) (hl : l.length ≤ 16777216) (h : l.all okP = true) : dist_tidy.F l = some (tDone (tMerge (sortP l))) := by
  rw [dist_tidy.F_eq, if_pos]
  unfold tGuard
  have := tot_bd (all_ok h)
  simp only [Bool.and_eq_true, decide_eq_true_eq, List.all_eq_true]
  exact ⟨⟨by omega, fun p hp => (all_ok h p hp).1⟩, by omega⟩
theorem right_tot {d : List S32} (hb : Bd d) (h : wrongP d = 0) : ∃ n : Nat, totOf d = (n : Int) ∧ 1 ≤ n ∧ n ≤ 1073741824 ∧ dist_total.F d = some (n : Int) := by
  have hr := right_of h
  have h1 := hr.pos
  have h2 := hr.few
  refine ⟨(totOf d).toNat, by omega, by omega, by omega, ?_⟩
  rw [totF d hb.len (fun p hp => (all_ok hr.ok p hp).1) (by omega)]
  congr 1
  omega
theorem b1F (fs : List S45) (hf : FBd fs) (o : List Int) : plain_Bind_1.F o fs = some (thenP fs o, 0) := by
  rw [plain_Bind_1.F_eq, thenF fs hf o, Option.bind_some]
def thenL (fs : List S45) (d : List S32) : List (List S32) := d.map (fun p => thenP fs p.f0)
theorem b_row (T : List (List S32)) (a n f1 : Int) (d : List S32) (i : Int) (f0 : List Int) (e : List S32) (he : e.length ≤ 1048576) (ho : ∀ q ∈ e, q.f0.length ≤ 1048576)
    (h0 : 0 ≤ f1 * n ∧ f1 * n ≤ 4611686018427387904) (h1 : ∀ q ∈ e, 0 ≤ f1 * n * q.f1 ∧ f1 * n * q.f1 ≤ 4611686018427387904) :
    ∀ (m j : Nat) (acc : List S32), j + m = e.length → acc.length + m ≤ 1000000000 →
    dist_Bind.L2 T a acc n d (d.length : Int) i e (e.length : Int) (j : Int) f0 f1 = dist_Bind.L1 T a (acc ++ (e.drop j).map (fun q => (⟨q.f0, f1 * n * q.f1⟩ : S32))) d (d.length : Int) (wrap64 (i + 1)) := by
  intro m
  induction m with
  | zero =>
    intro j acc hj _
    rw [dist_Bind.L2_eq, if_neg (by omega), List.drop_of_length_le (by omega), List.map_nil, List.append_nil]
  | succ m ih =>
    intro j acc hj hm
    have hx : j < e.length := by omega
    have h2 := h1 _ (List.getElem_mem hx)
    rw [dist_Bind.L2_eq, if_pos (by omega), if_pos (by omega), if_pos (by omega), rd32At hx, cloneF _ (ho _ (List.getElem_mem hx)), Option.bind_some, if_pos (by omega), wrap64_of (x := f1 * n) (by omega) (by omega), wrap64_of (x := f1 * n * e[j].f1) (by omega) (by omega), w1 (by omega), ih (j + 1) _ (by omega) (by rw [List.length_append]; simp; omega), List.drop_eq_getElem_cons hx, List.map_cons, List.append_assoc, List.singleton_append]
structure AOK (fs : List S45) (d : List S32) (a : Nat) : Prop where
  rd : RD d
  fb : FBd fs
  r : ∀ p ∈ d, wrongP (thenP fs p.f0) = 0 ∧ (totOf (thenP fs p.f0)).toNat ∣ a
  p : 1 ≤ a
  t : (a : Int) * totOf d ≤ 1073741824
theorem bd_right {d : List S32} (h : wrongP d = 0) : Bd d := by
  have hr := right_of h
  have hm := hr.much
  refine ⟨by omega, fun p hp => ?_⟩
  have h1 := (okP_iff.1 (List.all_eq_true.1 hr.ok p hp)).1
  unfold smallB at h1
  rw [Bool.and_eq_true, decide_eq_true_eq] at h1
  omega
theorem AOK.row {fs : List S45} {d : List S32} {a : Nat} (h : AOK fs d a) {p : S32} (hp : p ∈ d) : ∃ n m : Nat, totOf (thenP fs p.f0) = (n : Int) ∧ 1 ≤ n ∧ a = m * n ∧ (a : Int) / totOf (thenP fs p.f0) = (m : Int) ∧ 0 ≤ p.f1 * (m : Int) ∧ p.f1 * (m : Int) ≤ 1073741824 ∧ ∀ q ∈ thenP fs p.f0, 0 ≤ p.f1 * (m : Int) * q.f1 ∧ p.f1 * (m : Int) * q.f1 ≤ 1073741824 := by
  obtain ⟨hw, hdv⟩ := h.r p hp
  obtain ⟨n, e, n1, n2, _⟩ := right_tot (bd_right hw) hw
  rw [e, Int.toNat_natCast] at hdv
  obtain ⟨m, hm⟩ := hdv
  have hp0 := h.rd.nn p hp
  have hp1 := one_le h.rd.nn hp
  have ht := h.t
  have hmn : a = m * n := by rw [hm, Nat.mul_comm]
  have k1 : p.f1 * (a : Int) ≤ 1073741824 := by
    have : p.f1 * (a : Int) ≤ totOf d * (a : Int) := Int.mul_le_mul_of_nonneg_right hp1 (by omega)
    rw [Int.mul_comm (totOf d)] at this
    omega
  have k2 : ∀ x : Int, 0 ≤ x → x ≤ (n : Int) → 0 ≤ p.f1 * (m : Int) * x ∧ p.f1 * (m : Int) * x ≤ 1073741824 := fun x x0 x1 => by
    have e1 : p.f1 * (m : Int) * x ≤ p.f1 * (m : Int) * (n : Int) := Int.mul_le_mul_of_nonneg_left x1 (Int.mul_nonneg hp0 (by omega))
    have e2 : p.f1 * (m : Int) * (n : Int) = p.f1 * (a : Int) := by rw [hmn, Int.natCast_mul, Int.mul_assoc]
    exact ⟨Int.mul_nonneg (Int.mul_nonneg hp0 (by omega)) x0, by omega⟩
  refine ⟨n, m, e, n1, hmn, ?_, ?_, ?_, fun q hq => ?_⟩
  · rw [e, hm, Int.natCast_mul, Int.mul_ediv_cancel_left _ (by omega)]
  · have := (k2 1 (by omega) (by omega)).1
    omega
  · have := (k2 1 (by omega) (by omega)).2
    omega
  · have hr := right_of hw
    have q0 := (all_ok hr.ok q hq).1
    have q1 := one_le (fun p hp => (all_ok hr.ok p hp).1) hq
    exact k2 q.f1 q0 (by omega)
theorem b_rows {fs : List S45} {d : List S32} {a : Nat} (h : AOK fs d a) : ∀ (m i : Nat) (acc : List S32), i + m = d.length → acc.length + 4096 * m ≤ 16777216 →
    dist_Bind.L1 (thenL fs d) (a : Int) acc d (d.length : Int) (i : Int) = (dist_tidy.F (acc ++ (d.drop i).flatMap (rowP fs a))).bind (fun bt192 => some (bt192.1, bt192.2)) := by
  intro m
  have hlen := h.rd.right.much
  have htl : (thenL fs d).length = d.length := by unfold thenL; rw [List.length_map]
  induction m with
  | zero =>
    intro i acc hi _
    rw [dist_Bind.L1_eq, if_neg (by omega), List.drop_of_length_le (by omega), List.flatMap_nil, List.append_nil]
  | succ m ih =>
    intro i acc hi hm
    have hx : i < d.length := by omega
    have hp : d[i] ∈ d := List.getElem_mem hx
    obtain ⟨n, k, e, n1, ha, hq, h0, h1, h2⟩ := h.row hp
    have hw := (h.r _ hp).1
    obtain ⟨n', e', _, _, htot⟩ := right_tot (bd_right hw) hw
    have hn : n' = n := by omega
    subst hn
    have hmuch := (right_of hw).much
    have hT : rd_L3 (thenL fs d) (i : Int) = thenP fs d[i].f0 := by
      rw [rdL3At (by omega)]
      unfold thenL
      rw [List.getElem_map]
    have hdiv : wrap64 (Int.tdiv (a : Int) (n' : Int)) = (k : Int) := by
      rw [← Int.ofNat_tdiv, ha, Nat.mul_div_cancel _ (by omega), wrap64_of (by omega) (by
        have hk : k ≤ a := by rw [ha]; exact Nat.le_mul_of_pos_right k (by omega)
        have ht := h.t
        have hd := h.rd.right.pos
        have : (a : Int) * 1 ≤ (a : Int) * totOf d := Int.mul_le_mul_of_nonneg_left (by omega) (by omega)
        omega)]
    have hrow : rowP fs a d[i] = (thenP fs d[i].f0).map (fun q => (⟨q.f0, d[i].f1 * (k : Int) * q.f1⟩ : S32)) := by
      unfold rowP
      rw [hq]
    have hrl : (rowP fs a d[i]).length = (thenP fs d[i].f0).length := by rw [hrow, List.length_map]
    rw [dist_Bind.L1_eq, if_pos (by omega), if_pos (by omega), if_pos (by omega), if_pos (by omega), hT, htot, Option.bind_some, if_neg (by omega), hdiv, rd32At hx,
      show (0 : Int) = ((0 : Nat) : Int) from rfl, b_row _ _ _ _ _ _ _ _ (by omega) (bd_right hw).out ⟨h0, by omega⟩ (fun q hq' => ⟨(h2 q hq').1, by have := (h2 q hq').2; omega⟩) _ 0 acc (Nat.zero_add _) (by omega), List.drop_zero, ← hrow, w1 (by omega), ih (i + 1) _ (by omega) (by rw [List.length_append, hrl]; omega), List.drop_eq_getElem_cons hx, List.flatMap_cons, List.append_assoc]
theorem all_step {a n : Nat} (a1 : 1 ≤ a) (a2 : a ≤ 1073741824) (n1 : 1 ≤ n) (n2 : n ≤ 1073741824) : ∃ q : Nat, a / Nat.gcd a n * n = q ∧ 1 ≤ q ∧ q ≤ 1152921504606846976 ∧ wrap64 ((wrap64 (Int.tdiv (a : Int) ((Nat.gcd n a : Nat) : Int))) * (n : Int)) = (q : Int) ∧ ¬ ((Nat.gcd n a : Nat) : Int) = 0 := by
  have hg : 0 < Nat.gcd a n := Nat.gcd_pos_of_pos_left n (by omega)
  have hle : a / Nat.gcd a n ≤ a := Nat.div_le_self _ _
  have hpos : 1 ≤ a / Nat.gcd a n := Nat.div_pos (Nat.le_of_dvd (by omega) (Nat.gcd_dvd_left a n)) hg
  have hmul : a / Nat.gcd a n * n ≤ 1073741824 * 1073741824 := Nat.mul_le_mul (Nat.le_trans hle a2) n2
  have hnew : 1 ≤ a / Nat.gcd a n * n := Nat.mul_pos hpos n1
  refine ⟨a / Nat.gcd a n * n, rfl, hnew, hmul, ?_, ?_⟩
  · rw [← Int.ofNat_tdiv, Nat.gcd_comm n a]
    generalize a / Nat.gcd a n = v at *
    rw [wrap64_of (x := (v : Int)) (by omega) (by omega), ← Int.natCast_mul]
    generalize v * n = u at *
    rw [wrap64_of (by omega) (by omega)]
  · rw [Nat.gcd_comm]
    omega
theorem b_all {fs : List S45} {d : List S32} (hf : FBd fs) (hd : RD d) : ∀ (m i a : Nat), i + m = d.length → 1 ≤ a → a ≤ 1073741824 →
    dist_Bind.L0 d fs (thenL fs (d.take i) ++ List.replicate m []) (a : Int) d (d.length : Int) (i : Int) = if (allP fs (d.drop i) a).1 = 0 then (if ((allP fs (d.drop i) a).2 : Int) * totOf d > 1073741824 then some ([], 4) else dist_Bind.L1 (thenL fs d) ((allP fs (d.drop i) a).2 : Int) [] d (d.length : Int) 0) else some ([], (allP fs (d.drop i) a).1) := by
  intro m
  have hlen := hd.right.much
  have hfew := hd.right.few
  have hpos := hd.right.pos
  induction m with
  | zero =>
    intro i a hi a1 a2
    have hb : (a : Int) * totOf d ≤ 1073741824 * 1073741824 := Int.mul_le_mul (by omega) hfew (by omega) (by omega)
    have hb0 : 0 ≤ (a : Int) * totOf d := Int.mul_nonneg (by omega) (by omega)
    rw [dist_Bind.L0_eq, if_neg (by omega), List.drop_of_length_le (by omega), allP, if_pos rfl, hd.tD, Option.bind_some, wrap64_of (by omega) (by omega), List.take_of_length_le (by omega), List.replicate_zero, List.append_nil]
  | succ m ih =>
    intro i a hi a1 a2
    have hx : i < d.length := by omega
    have hp : d[i] ∈ d := List.getElem_mem hx
    have ho := hd.bd.out _ hp
    have hT : (thenL fs (d.take i)).length = i := by unfold thenL; rw [List.length_map, List.length_take]; omega
    rw [dist_Bind.L0_eq, if_pos (by omega), if_pos (by omega), if_pos (by omega), rd32At hx, cloneF _ ho, Option.bind_some, b1F fs hf, Option.bind_some, if_pos rfl, wrongF _ (thenP_bd fs _ hf.bd ho), Option.bind_some, dist_Bind.J1_eq, List.drop_eq_getElem_cons hx, allP]
    by_cases c : wrongP (thenP fs d[i].f0) = 0
    · obtain ⟨n, e, n1, n2, htot⟩ := right_tot (bd_right c) c
      obtain ⟨v, hv, v1, v2, hw, hg⟩ := all_step a1 a2 n1 n2
      have hset : (thenL fs (d.take i) ++ List.replicate (m + 1) []).set i (thenP fs d[i].f0) = thenL fs (d.take (i + 1)) ++ List.replicate m [] := by
        have e1 : thenL fs (d.take (i + 1)) = thenL fs (d.take i) ++ [thenP fs d[i].f0] := by
          unfold thenL
          rw [List.take_succ_eq_append_getElem hx, List.map_append, List.map_cons, List.map_nil]
        rw [e1, List.set_append_right _ _ (by omega), hT, Nat.sub_self, List.replicate_succ, List.set_cons_zero, List.append_assoc, List.singleton_append]
      rw [if_pos c, if_pos (by omega), if_pos (by rw [List.length_append, List.length_replicate, hT]; omega), htot, Option.bind_some, dgcdN, Option.bind_some, if_neg hg, hw, if_pos c, e]
      simp only [Int.toNat_natCast]
      rw [hv]
      clear hv hw hg
      by_cases c2 : v > 1073741824
      · have k1 : (v : Int) > 1073741824 := by clear hset ih; omega
        rw [if_pos k1, if_pos c2]
        rfl
      · have k1 : ¬ (v : Int) > 1073741824 := by clear hset ih; omega
        have k2 : (i + 1) + m = d.length := by clear hset ih; omega
        have k3 : v ≤ 1073741824 := by clear hset ih; omega
        rw [if_neg k1, if_neg c2, hset, w1 (by clear hset ih; omega), ih (i + 1) v k2 v1 k3]
    · rw [if_neg c, if_neg c, if_neg c]
def bindP (fs : List S45) (d : List S32) : List S32 × Int := if wrongP d = 0 then (if (allP fs d 1).1 = 0 then (if ((allP fs d 1).2 : Int) * totOf d > 1073741824 then ([], 4) else makeP (bindL fs (allP fs d 1).2 d)) else ([], (allP fs d 1).1)) else ([], wrongP d)
theorem allP_pos (fs : List S45) : ∀ (d : List S32) (a : Nat), 1 ≤ a → 1 ≤ (allP fs d a).2
  | [], a, h => h
  | p :: d, a, h => by
    rw [allP]
    by_cases c : wrongP (thenP fs p.f0) = 0
    · rw [if_pos c]
      by_cases c2 : a / Nat.gcd a (totOf (thenP fs p.f0)).toNat * (totOf (thenP fs p.f0)).toNat > 1073741824
      · rw [if_pos c2]; exact h
      · rw [if_neg c2]
        have hr := (right_of c).pos
        refine allP_pos fs d _ (Nat.mul_pos (Nat.div_pos (Nat.le_of_dvd (by omega) (Nat.gcd_dvd_left a _)) (Nat.gcd_pos_of_pos_left _ (by omega))) (by omega))
    · rw [if_neg c]; exact h
theorem aok {fs : List S45} {d : List S32} (hf : FBd fs) (hd : RD d) (h0 : (allP fs d 1).1 = 0) (ht : ¬ ((allP fs d 1).2 : Int) * totOf d > 1073741824) : AOK fs d (allP fs d 1).2 :=
  ⟨hd, hf, fun p hp => (allP_dvd fs d 1 h0).2 p hp, allP_pos fs d 1 (Nat.le_refl _), by omega⟩
theorem AOK.all {fs : List S45} {d : List S32} {a : Nat} (h : AOK fs d a) : (bindL fs a d).all okP = true := by
  rw [List.all_eq_true]
  intro x hx
  unfold bindL at hx
  rw [List.mem_flatMap] at hx
  obtain ⟨p, hp, hx⟩ := hx
  obtain ⟨n, m, e, n1, ha, hq, h0, h1, h2⟩ := h.row hp
  unfold rowP at hx
  rw [hq] at hx
  obtain ⟨q, hq', rfl⟩ := List.mem_map.1 hx
  have hr := right_of (h.r p hp).1
  exact okP_iff.2 ⟨(okP_iff.1 (List.all_eq_true.1 hr.ok q hq')).1, (h2 q hq').1, (h2 q hq').2⟩
theorem rows_len (fs : List S45) (a : Nat) : ∀ (d : List S32), (∀ p ∈ d, wrongP (thenP fs p.f0) = 0) → (d.flatMap (rowP fs a)).length ≤ 4096 * d.length
  | [], _ => by simp
  | p :: d, h => by
    have ih := rows_len fs a d (fun q hq => h q (by simp [hq]))
    have hm := (right_of (h p (by simp))).much
    have e : (rowP fs a p).length = (thenP fs p.f0).length := by unfold rowP; rw [List.length_map]
    rw [List.flatMap_cons, List.length_append, List.length_cons, e]
    omega
theorem bindF (fs : List S45) (hf : FBd fs) (d : List S32) (hd : Bd d) : plain_Bind.F d fs = some (bindP fs d) := by
  rw [plain_Bind.F_eq, dist_Bind.F_eq, wrongF _ hd, Option.bind_some]
  unfold bindP
  by_cases c : wrongP d = 0
  · have hl := hd.len
    have hR : RD d := ⟨hd, c⟩
    have h := b_all hf hR d.length 0 1 (Nat.zero_add _) (Nat.le_refl _) (by omega)
    rw [List.take_zero, List.drop_zero, show thenL fs ([] : List S32) = [] from rfl, List.nil_append] at h
    rw [if_pos c, if_pos (by omega), Int.toNat_natCast, if_pos (by omega), if_pos c]
    refine h.trans ?_
    by_cases c1 : (allP fs d 1).1 = 0
    · rw [if_pos c1, if_pos c1]
      by_cases c2 : ((allP fs d 1).2 : Int) * totOf d > 1073741824
      · rw [if_pos c2, if_pos c2]
      · have A := aok hf hR c1 c2
        have hm := hR.right.much
        have hll := rows_len fs (allP fs d 1).2 d (fun p hp => (A.r p hp).1)
        have h3 := b_rows A d.length 0 [] (Nat.zero_add _) (by simp; omega)
        rw [List.drop_zero, List.nil_append] at h3
        rw [if_neg c2, if_neg c2]
        refine h3.trans ?_
        have h4 := tidyF2 _ (by unfold bindL; omega) A.all
        have h5 := A.all
        unfold bindL at h4 h5
        rw [h4, Option.bind_some]
        unfold makeP bindL
        rw [if_pos h5]
    · rw [if_neg c1, if_neg c1]
  · rw [if_neg c, if_neg c]
end Go.Proofs.Ytkemhfhmlcljjaa.DistPure
end
section
namespace Go.Proofs.Ytkemhfhmlcljjaa.DistPure
set_option linter.unusedVariables false
set_option linter.unusedSimpArgs false
open Go.RowKit Go.Proofs.Ytkemhfhmlcljjaa.PQ Go.Proofs.YtkemhfhmlcljjaaW.PrintWords Go.Proofs.YtkemhfhmlcljjaaW.PrintLast Go.Proofs.YtkemhfhmlcljjaaW.PrintMore Go.Proofs.YtkemhfhmlcljjaaW.EvKit
def eS (K : List Int → Rat) : List S32 → Rat
  | [] => 0
  | p :: l => (p.f1 : Rat) * K p.f0 + eS K l
theorem eS_app (K : List Int → Rat) : ∀ a b : List S32, eS K (a ++ b) = eS K a + eS K b
  | [], b => by rw [List.nil_append, eS]; grind
  | p :: a, b => by rw [List.cons_append, eS, eS, eS_app K a b]; grind
theorem eS_one (K : List Int → Rat) (p : S32) : eS K [p] = (p.f1 : Rat) * K p.f0 := by rw [eS, eS]; grind
theorem eS_perm (K : List Int → Rat) {a b : List S32} (h : a.Perm b) : eS K a = eS K b := by
  induction h with
  | nil => rfl
  | cons x _ ih => rw [eS, eS, ih]
  | swap x y l => rw [eS, eS, eS, eS]; grind
  | trans _ _ h1 h2 => rw [h1, h2]
theorem eS_step (K : List Int → Rat) (d : List S32) (p : S32) : eS K (tStep d p) = eS K d + (p.f1 : Rat) * K p.f0 := by
  by_cases h : p.f1 = 0
  · rw [tStep_zero h, h]; grind
  · rcases List.eq_nil_or_concat d with e | ⟨d', q, e⟩
    · rw [e, tStep_nil h, eS_one, eS]; grind
    · rw [List.concat_eq_append] at e
      rw [e]
      by_cases c : q.f0 = p.f0
      · rw [tStep_same h c, eS_app, eS_app, eS_one, eS_one, Rat.intCast_add]
        dsimp only
        rw [c]; grind
      · have e2 : tStep (d' ++ [q]) p = d' ++ [q] ++ [p] := by
          unfold tStep
          rw [if_neg h, List.getLast?_concat]
          dsimp only
          rw [if_neg c]
        rw [e2, eS_app, eS_one]
theorem eS_fold (K : List Int → Rat) : ∀ (l d : List S32), eS K (l.foldl tStep d) = eS K d + eS K l
  | [], d => by rw [List.foldl_nil, eS]; grind
  | p :: l, d => by rw [List.foldl_cons, eS_fold K l, eS_step, eS]; grind
theorem eS_merge (K : List Int → Rat) (l : List S32) : eS K (tMerge (sortP l)) = eS K l := by
  unfold tMerge
  rw [eS_fold, eS_perm K (sortP_perm l), eS]; grind
theorem eS_div (K : List Int → Rat) (g : Nat) (hg : 0 < g) : ∀ (L : List S32), (∀ p ∈ L, 0 < p.f1 ∧ g ∣ p.f1.toNat) → eS K (L.map (fun p => (⟨p.f0, p.f1 / (g : Int)⟩ : S32))) * ((g : Int) : Rat) = eS K L
  | [], _ => by rw [List.map_nil, eS]; grind
  | p :: L, h => by
    obtain ⟨h1, h2⟩ := h p (by simp)
    obtain ⟨m, _, h4, h5⟩ := div_pos' h1 hg h2
    have ih := eS_div K g hg L (fun q hq => h q (by simp [hq]))
    have e : p.f1 = (m : Int) * (g : Int) := by rw [← Int.natCast_mul, Nat.mul_comm, ← h5]; omega
    have e2 : (p.f1 : Rat) = ((m : Int) : Rat) * ((g : Int) : Rat) := by rw [e, Rat.intCast_mul]
    rw [List.map_cons, eS, eS]
    dsimp only
    rw [h4, e2]
    grind
theorem eS_tot : ∀ (l : List S32), eS (fun _ => 1) l = ((totOf l : Int) : Rat)
  | [] => rfl
  | p :: l => by rw [eS, eS_tot l, totOf_cons, Rat.intCast_add]; grind
def eI (o : List Int) (x : List Int) : Rat := if x = o then 1 else 0
theorem eS_w (o : List Int) : ∀ (l : List S32), eS (eI o) l = ((wOf l o : Int) : Rat)
  | [] => rfl
  | p :: l => by
    rw [eS, eS_w o l, wOf_cons, Rat.intCast_add]
    unfold eI
    by_cases c : p.f0 = o
    · rw [if_pos c, if_pos c]; grind
    · rw [if_neg c, if_neg c, Rat.intCast_zero]; grind
theorem eS_congr {K K' : List Int → Rat} : ∀ {l : List S32}, (∀ p ∈ l, K p.f0 = K' p.f0) → eS K l = eS K' l
  | [], _ => rfl
  | p :: l, h => by rw [eS, eS, h p (by simp), eS_congr (fun q hq => h q (by simp [hq]))]
def eE (K : List Int → Rat) (d : List S32) : Rat := eS K d / ((totOf d : Int) : Rat)
theorem cast_ne {x : Int} (h : x ≠ 0) : (x : Rat) ≠ 0 := fun e => h (by exact_mod_cast e)
theorem make_E {l : List S32} (h : (makeP l).2 = 0) (K : List Int → Rat) : eE K (makeP l).1 = eE K l := by
  have h1 : ∃ g : Nat, 0 < g ∧ eS K (makeP l).1 * ((g : Int) : Rat) = eS K l ∧ eS (fun _ => 1) (makeP l).1 * ((g : Int) : Rat) = eS (fun _ => 1) l := by
    unfold makeP at h ⊢
    by_cases ho : l.all okP = true
    · rw [if_pos ho] at h ⊢
      have h0 : ∀ p ∈ l, 0 ≤ p.f1 := fun p hp => (all_ok ho p hp).1
      have hc := tidy_canon h0
      have hm := eS_merge K l
      have hm1 := eS_merge (fun _ => 1) l
      generalize tMerge (sortP l) = D at *
      unfold tDone at h ⊢
      by_cases e1 : D = []
      · rw [if_pos e1] at h; cases h
      · rw [if_neg e1] at h ⊢
        by_cases e2 : totOf D / (gOf D : Int) > 1073741824 ∨ D.length > 4096
        · rw [if_pos e2] at h; cases h
        · rw [if_neg e2]
          have hg := gOf_pos hc.pos e1
          exact ⟨gOf D, hg, (eS_div K (gOf D) hg D (fun p hp => ⟨hc.pos p hp, gOf_dvd hp⟩)).trans hm, (eS_div _ (gOf D) hg D (fun p hp => ⟨hc.pos p hp, gOf_dvd hp⟩)).trans hm1⟩
    · rw [if_neg ho] at h; cases h
  obtain ⟨g, hg, e1, e2⟩ := h1
  have hr := right_of (make_right' h).1
  have hp := hr.pos
  rw [eS_tot, eS_tot] at e2
  have hg' : ((g : Int) : Rat) ≠ 0 := cast_ne (by omega)
  have ht' : ((totOf (makeP l).1 : Int) : Rat) ≠ 0 := cast_ne (by omega)
  unfold eE
  rw [← e1, ← e2]
  grind
theorem row_S {fs : List S45} {d : List S32} {a : Nat} (h : AOK fs d a) (K : List Int → Rat) {p : S32} (hp : p ∈ d) : eS K (rowP fs a p) = (p.f1 : Rat) * (((a : Int) : Rat) * eE K (thenP fs p.f0)) := by
  obtain ⟨n, m, e, n1, ha, hq, _, _, _⟩ := h.row hp
  have e1 : ∀ l : List S32, eS K (l.map (fun q => (⟨q.f0, p.f1 * (m : Int) * q.f1⟩ : S32))) = ((p.f1 : Rat) * ((m : Int) : Rat)) * eS K l := by
    intro l
    induction l with
    | nil => rw [List.map_nil, eS]; grind
    | cons q l ih => rw [List.map_cons, eS, eS, ih]; dsimp only; rw [Rat.intCast_mul, Rat.intCast_mul]; grind
  unfold rowP
  rw [hq, e1]
  unfold eE
  have hn' : ((n : Int) : Rat) ≠ 0 := cast_ne (by omega)
  rw [e, ha, Int.natCast_mul, Rat.intCast_mul]
  grind
theorem rows_S {fs : List S45} {a : Nat} (K : List Int → Rat) : ∀ (d : List S32), (∀ p ∈ d, eS K (rowP fs a p) = (p.f1 : Rat) * (((a : Int) : Rat) * eE K (thenP fs p.f0))) → eS K (d.flatMap (rowP fs a)) = ((a : Int) : Rat) * eS (fun x => eE K (thenP fs x)) d
  | [], _ => by rw [List.flatMap_nil, eS, eS]; grind
  | p :: d, h => by
    rw [List.flatMap_cons, eS_app, h p (by simp), rows_S K d (fun q hq => h q (by simp [hq])), eS]
    grind
theorem one_E {fs : List S45} {d : List S32} {a : Nat} (h : AOK fs d a) {p : S32} (hp : p ∈ d) : eE (fun _ => 1) (thenP fs p.f0) = 1 := by
  obtain ⟨n, m, e, n1, _⟩ := h.row hp
  unfold eE
  rw [eS_tot, e]
  have hn' : ((n : Int) : Rat) ≠ 0 := cast_ne (by omega)
  grind
theorem bindP_ok {fs : List S45} {d : List S32} (hf : FBd fs) (hd : Bd d) (h : (bindP fs d).2 = 0) : ∃ a, AOK fs d a ∧ bindP fs d = makeP (bindL fs a d) ∧ (makeP (bindL fs a d)).2 = 0 := by
  unfold bindP at h ⊢
  by_cases c : wrongP d = 0
  · rw [if_pos c] at h ⊢
    by_cases c1 : (allP fs d 1).1 = 0
    · rw [if_pos c1] at h ⊢
      by_cases c2 : ((allP fs d 1).2 : Int) * totOf d > 1073741824
      · rw [if_pos c2] at h; cases h
      · rw [if_neg c2] at h ⊢
        exact ⟨_, aok hf ⟨hd, c⟩ c1 c2, rfl, h⟩
    · rw [if_neg c1] at h; exact absurd h c1
  · rw [if_neg c] at h; exact absurd h c
theorem bind_E {fs : List S45} {d : List S32} (hf : FBd fs) (hd : Bd d) (h : (bindP fs d).2 = 0) (K : List Int → Rat) : eE K (bindP fs d).1 = eE (fun x => eE K (thenP fs x)) d := by
  obtain ⟨a, A, e, h2⟩ := bindP_ok hf hd h
  rw [e, make_E h2]
  have r1 := rows_S K d (fun p hp => row_S A K hp)
  have r2 := rows_S (fun _ => 1) d (fun p hp => row_S A _ hp)
  rw [eS_congr (K' := fun _ => 1) (fun p hp => one_E A hp), eS_tot, eS_tot] at r2
  have ha' : ((a : Int) : Rat) ≠ 0 := cast_ne (by have := A.p; omega)
  have ht' : ((totOf d : Int) : Rat) ≠ 0 := cast_ne (by have := A.rd.right.pos; omega)
  unfold eE bindL
  rw [r1, r2]
  unfold eE
  grind
theorem bind_right {fs : List S45} {d : List S32} (hf : FBd fs) (hd : Bd d) (h : (bindP fs d).2 = 0) : RD (bindP fs d).1 := by
  obtain ⟨a, A, e, h2⟩ := bindP_ok hf hd h
  have hw := (make_right' h2).1
  rw [e]
  exact ⟨bd_right hw, hw⟩
theorem bindP_bd {fs : List S45} {d : List S32} (hf : FBd fs) (hd : Bd d) : Bd (bindP fs d).1 := by
  by_cases h : (bindP fs d).2 = 0
  · exact (bind_right hf hd h).bd
  · have h0 : Bd ([] : List S32) := ⟨by simp, fun p hp => by cases hp⟩
    unfold bindP at h ⊢
    split
    · split
      · split
        · exact h0
        · rename_i c c1 c2
          rw [if_pos c, if_pos c1, if_neg c2] at h
          unfold makeP at h ⊢
          split
          · rename_i c3
            rw [if_pos c3] at h
            unfold tDone at h ⊢
            split
            · exact h0
            · rename_i c4
              rw [if_neg c4] at h
              split
              · exact h0
              · rename_i c5
                rw [if_neg c5] at h
                exact absurd rfl h
          · exact h0
      · exact h0
    · exact h0
theorem same_E {a b : List S32} (ha : RD a) (hb : RD b) (h : ∀ o, eE (eI o) a = eE (eI o) b) : a = b := by
  have pa := ha.right.pos
  have pb := hb.right.pos
  refine same_of ⟨ha, hb⟩ (ta := (totOf a).toNat) (tb := (totOf b).toNat) (by omega) (by omega) (by omega) (by omega) (fun o => ?_)
  have h1 := h o
  unfold eE at h1
  rw [eS_w, eS_w] at h1
  have ha' : ((totOf a : Int) : Rat) ≠ 0 := cast_ne (by omega)
  have hb' : ((totOf b : Int) : Rat) ≠ 0 := cast_ne (by omega)
  have h2 : ((wOf a o : Int) : Rat) * ((totOf b : Int) : Rat) = ((wOf b o : Int) : Rat) * ((totOf a : Int) : Rat) := by grind
  have h3 : wOf a o * totOf b = wOf b o * totOf a := by exact_mod_cast h2
  have wa := (ha.wbd o).1
  have wb := (hb.wbd o).1
  have h4 : (((wOf a o).toNat * (totOf b).toNat : Nat) : Int) = (((wOf b o).toNat * (totOf a).toNat : Nat) : Int) := by
    rw [Int.natCast_mul, Int.natCast_mul, Int.toNat_of_nonneg wa, Int.toNat_of_nonneg wb, Int.toNat_of_nonneg (by omega), Int.toNat_of_nonneg (by omega), h3]
  exact_mod_cast h4
end Go.Proofs.Ytkemhfhmlcljjaa.DistPure
end
section
namespace Go.Proofs.Ytkemhfhmlcljjaa.DistPure
set_option linter.unusedVariables false
set_option linter.unusedSimpArgs false
open Go.RowKit Go.Proofs.Ytkemhfhmlcljjaa.PQ Go.Proofs.YtkemhfhmlcljjaaW.PrintWords Go.Proofs.YtkemhfhmlcljjaaW.PrintLast Go.Proofs.YtkemhfhmlcljjaaW.PrintMore Go.Proofs.YtkemhfhmlcljjaaW.EvKit
structure Rt (u d : Int) : Prop where
  u0 : 0 ≤ u
  d1 : 1 ≤ d
  u2 : u ≤ 1073741824
  d2 : d ≤ 1073741824
  co : Int.gcd u d = 1
end Go.Proofs.Ytkemhfhmlcljjaa.DistPure
end
section
namespace Go.Proofs.Ytkemhfhmlcljjaa.DistPure
set_option linter.unusedVariables false
set_option linter.unusedSimpArgs false
open Go.RowKit Go.Proofs.Ytkemhfhmlcljjaa.PQ Go.Proofs.YtkemhfhmlcljjaaW.PrintWords Go.Proofs.YtkemhfhmlcljjaaW.PrintLast Go.Proofs.YtkemhfhmlcljjaaW.PrintMore Go.Proofs.YtkemhfhmlcljjaaW.EvKit
theorem ones (l : List Int) : (l.map (fun _ => 1)).sum = l.length := by
  induction l with
  | nil => rfl
  | cons a l ih => rw [List.map_cons, List.sum_cons, ih, List.length_cons]; omega
theorem bulk_bd : ∀ (l : List S32), l.length ≤ (l.map (fun z => ((((z.f0.map (fun _ => 1)).sum + 1) + 1) + 1))).sum ∧ ∀ p ∈ l, p.f0.length ≤ (l.map (fun z => ((((z.f0.map (fun _ => 1)).sum + 1) + 1) + 1))).sum
  | [] => ⟨by simp, by simp⟩
  | q :: l => by
    obtain ⟨h1, h2⟩ := bulk_bd l
    rw [List.map_cons, List.sum_cons, ones]
    refine ⟨by rw [List.length_cons]; omega, fun p hp => ?_⟩
    rcases List.mem_cons.1 hp with e | e
    · rw [e]; omega
    · have := h2 p e
      omega
theorem make_three : makeP [(⟨[3], 1⟩ : S32)] = ([⟨[3], 1⟩], 0) := by
  have h1 : tMerge (sortP [(⟨[3], 1⟩ : S32)]) = [⟨[3], 1⟩] := by
    have : sortP [(⟨[3], 1⟩ : S32)] = [⟨[3], 1⟩] := List.mergeSort_singleton _
    rw [this]; rfl
  unfold makeP
  rw [if_pos (by decide), h1]
  rfl
theorem aliveF : hushlaw2_alive.F = some true := by
  have hb : Bd [(⟨[3], 1⟩ : S32)] := ⟨by simp, fun p hp => by rw [List.mem_singleton.1 hp]; simp⟩
  rw [hushlaw2_alive.F_eq, dist_Sure.F_eq, makeF1 _ hb, make_three, Option.bind_some, Option.bind_some]
  rfl
end Go.Proofs.Ytkemhfhmlcljjaa.DistPure
end
section
namespace Go.Proofs.Ytkemhfhmlcljjaa.PQ
open Go.RowKit Go.Proofs.YtkemhfhmlcljjaaW.PrintWords Go.Proofs.YtkemhfhmlcljjaaW.PrintLast Go.Proofs.YtkemhfhmlcljjaaW.PrintMore
open Go.Proofs.YtkemhfhmlcljjaaW.EvKit
set_option linter.unusedVariables false
noncomputable def hushlaw2_DistMonad.J0 (x0 : List (S32)) (x1 : List (S45)) (x2 : List (S45)) : Option (Bool) := lim (fun k => hushlaw2_DistMonad.j0 k x0 x1 x2)
theorem hushlaw2_DistMonad.J0_is (x0 : List (S32)) (x1 : List (S45)) (x2 : List (S45)) : LimIs (fun k => hushlaw2_DistMonad.j0 k x0 x1 x2) (hushlaw2_DistMonad.J0 x0 x1 x2) := ⟨fun k => (hushlaw2_DistMonad.mono_l k).1 x0 x1 x2, rfl⟩
noncomputable def hushlaw2_DistMonad.J1 (x0 : List (S32)) (x1 : List (S45)) (x2 : List (S45)) (x73 : Bool) : Option (Bool) := lim (fun k => hushlaw2_DistMonad.j1 k x0 x1 x2 x73)
theorem hushlaw2_DistMonad.J1_is (x0 : List (S32)) (x1 : List (S45)) (x2 : List (S45)) (x73 : Bool) : LimIs (fun k => hushlaw2_DistMonad.j1 k x0 x1 x2 x73) (hushlaw2_DistMonad.J1 x0 x1 x2 x73) := ⟨fun k => (hushlaw2_DistMonad.mono_l k).2.1 x0 x1 x2 x73, rfl⟩
noncomputable def hushlaw2_DistMonad.L0 (x0 : List (S32)) (x1 : List (S45)) (x2 : List (S45)) (x17 : List (S32)) (x18 : List (S45)) (x90 : List (S32)) (x91 : Int) (x92 : Int) : Option (Bool) := lim (fun k => hushlaw2_DistMonad.l0 k x0 x1 x2 x17 x18 x90 x91 x92)
theorem hushlaw2_DistMonad.L0_is (x0 : List (S32)) (x1 : List (S45)) (x2 : List (S45)) (x17 : List (S32)) (x18 : List (S45)) (x90 : List (S32)) (x91 : Int) (x92 : Int) : LimIs (fun k => hushlaw2_DistMonad.l0 k x0 x1 x2 x17 x18 x90 x91 x92) (hushlaw2_DistMonad.L0 x0 x1 x2 x17 x18 x90 x91 x92) := ⟨fun k => (hushlaw2_DistMonad.mono_l k).2.2 x0 x1 x2 x17 x18 x90 x91 x92, rfl⟩
noncomputable def hushlaw2_DistMonad.F (l0 : List (S32)) (l1 : List (S45)) (l2 : List (S45)) (l3 : List Int) : Option (Bool) := lim (fun k => hushlaw2_DistMonad.f k l0 l1 l2 l3)
theorem hushlaw2_DistMonad.F_is (l0 : List (S32)) (l1 : List (S45)) (l2 : List (S45)) (l3 : List Int) : LimIs (fun k => hushlaw2_DistMonad.f k l0 l1 l2 l3) (hushlaw2_DistMonad.F l0 l1 l2 l3) := ⟨fun k => hushlaw2_DistMonad.mono l0 l1 l2 l3 k, rfl⟩
set_option maxRecDepth 100000 in
theorem hushlaw2_DistMonad.J0_eq (x0 : List (S32)) (x1 : List (S45)) (x2 : List (S45)) : hushlaw2_DistMonad.J0 x0 x1 x2 = (dist_Wrong.F x0).bind fun t223 => (if t223 = 0 then ((plain_Bind.F x0 ([] : List (S45))).bind fun bt224 => (if bt224.2 = 0 then ((hushref2_Same.F bt224.1 x0).bind fun t228 => (hushlaw2_DistMonad.J1 x0 x1 x2 (!t228))) else (hushlaw2_DistMonad.J1 x0 x1 x2 true))) else (some true)) := by
  refine LimIs.step' (hushlaw2_DistMonad.J0_is x0 x1 x2).1 (b := fun k => (dist_Wrong.f k x0).bind fun t223 => (if t223 = 0 then ((plain_Bind.f k x0 ([] : List (S45))).bind fun bt224 => (if bt224.2 = 0 then ((hushref2_Same.f k bt224.1 x0).bind fun t228 => (hushlaw2_DistMonad.j1 k x0 x1 x2 (!t228))) else (hushlaw2_DistMonad.j1 k x0 x1 x2 true))) else (some true))) (fun k => by first | rfl | rw [hushlaw2_DistMonad.j0]) ?_
  repeat' first
    | (with_reducible exact dist_Wrong.F_is _)
    | (with_reducible exact plain_Bind.F_is _ _)
    | (with_reducible exact hushref2_Same.F_is _ _)
    | (with_reducible exact hushlaw2_DistMonad.J1_is _ _ _ _)
    | (with_reducible exact LimIs.const _)
    | (with_reducible refine LimIs.ite ?_ ?_)
    | (with_reducible refine LimIs.bind ?_ (fun _ => ?_))
    | exact dist_Wrong.F_is _
    | exact plain_Bind.F_is _ _
    | exact hushref2_Same.F_is _ _
    | exact hushlaw2_DistMonad.J1_is _ _ _ _
    | exact LimIs.const _
    | refine LimIs.ite ?_ ?_
    | refine LimIs.bind ?_ (fun _ => ?_)
set_option maxRecDepth 100000 in
theorem hushlaw2_DistMonad.J1_eq (x0 : List (S32)) (x1 : List (S45)) (x2 : List (S45)) (x73 : Bool) : hushlaw2_DistMonad.J1 x0 x1 x2 x73 = if x73 = true then (some false) else ((plain_Bind.F x0 x1).bind fun bt229 => (if bt229.2 = 0 then ((plain_Bind.F bt229.1 x2).bind fun bt233 => (if bt233.2 = 0 then (hushlaw2_DistMonad.L0 x0 x1 x2 bt233.1 ([] : List (S45)) x0 (x0.length : Int) 0) else (some true))) else (some true))) := by
  refine LimIs.step' (hushlaw2_DistMonad.J1_is x0 x1 x2 x73).1 (b := fun k => if x73 = true then (some false) else ((plain_Bind.f k x0 x1).bind fun bt229 => (if bt229.2 = 0 then ((plain_Bind.f k bt229.1 x2).bind fun bt233 => (if bt233.2 = 0 then (hushlaw2_DistMonad.l0 k x0 x1 x2 bt233.1 ([] : List (S45)) x0 (x0.length : Int) 0) else (some true))) else (some true)))) (fun k => by first | rfl | rw [hushlaw2_DistMonad.j1]) ?_
  repeat' first
    | (with_reducible exact plain_Bind.F_is _ _)
    | (with_reducible exact hushlaw2_DistMonad.L0_is _ _ _ _ _ _ _ _)
    | (with_reducible exact LimIs.const _)
    | (with_reducible refine LimIs.ite ?_ ?_)
    | (with_reducible refine LimIs.bind ?_ (fun _ => ?_))
    | exact plain_Bind.F_is _ _
    | exact hushlaw2_DistMonad.L0_is _ _ _ _ _ _ _ _
    | exact LimIs.const _
    | refine LimIs.ite ?_ ?_
    | refine LimIs.bind ?_ (fun _ => ?_)
set_option maxRecDepth 100000 in
theorem hushlaw2_DistMonad.L0_eq (x0 : List (S32)) (x1 : List (S45)) (x2 : List (S45)) (x17 : List (S32)) (x18 : List (S45)) (x90 : List (S32)) (x91 : Int) (x92 : Int) : hushlaw2_DistMonad.L0 x0 x1 x2 x17 x18 x90 x91 x92 = if x92 < x91 then (if 0 ≤ x92 then (if x92 < (x90.length : Int) then ((plain_Then.F x1 ((rd_T32 x90 x92).f0)).bind fun t244 => ((plain_Bind.F t244 x2).bind fun bt247 => (if bt247.2 = 0 then (if x18.length < 2932031007402 then (hushlaw2_DistMonad.L0 x0 x1 x2 x17 (x18 ++ [(⟨(rd_T32 x90 x92).f0, bt247.1⟩ : S45)]) x90 x91 (wrap64 (x92 + 1))) else (none)) else (some true)))) else (none)) else (none)) else ((plain_Bind.F x0 x18).bind fun bt237 => (if bt237.2 = 0 then ((hushref2_Same.F x17 bt237.1).bind fun t241 => (some t241)) else (some true))) := by
  refine LimIs.step' (hushlaw2_DistMonad.L0_is x0 x1 x2 x17 x18 x90 x91 x92).1 (b := fun k => if x92 < x91 then (if 0 ≤ x92 then (if x92 < (x90.length : Int) then ((plain_Then.f k x1 ((rd_T32 x90 x92).f0)).bind fun t244 => ((plain_Bind.f k t244 x2).bind fun bt247 => (if bt247.2 = 0 then (if x18.length < 2932031007402 then (hushlaw2_DistMonad.l0 k x0 x1 x2 x17 (x18 ++ [(⟨(rd_T32 x90 x92).f0, bt247.1⟩ : S45)]) x90 x91 (wrap64 (x92 + 1))) else (none)) else (some true)))) else (none)) else (none)) else ((plain_Bind.f k x0 x18).bind fun bt237 => (if bt237.2 = 0 then ((hushref2_Same.f k x17 bt237.1).bind fun t241 => (some t241)) else (some true)))) (fun k => by first | rfl | rw [hushlaw2_DistMonad.l0]) ?_
  repeat' first
    | (with_reducible exact plain_Then.F_is _ _)
    | (with_reducible exact plain_Bind.F_is _ _)
    | (with_reducible exact hushlaw2_DistMonad.L0_is _ _ _ _ _ _ _ _)
    | (with_reducible exact hushref2_Same.F_is _ _)
    | (with_reducible exact LimIs.const _)
    | (with_reducible refine LimIs.ite ?_ ?_)
    | (with_reducible refine LimIs.bind ?_ (fun _ => ?_))
    | exact plain_Then.F_is _ _
    | exact plain_Bind.F_is _ _
    | exact hushlaw2_DistMonad.L0_is _ _ _ _ _ _ _ _
    | exact hushref2_Same.F_is _ _
    | exact LimIs.const _
    | refine LimIs.ite ?_ ?_
    | refine LimIs.bind ?_ (fun _ => ?_)
set_option maxRecDepth 100000 in
theorem hushlaw2_DistMonad.F_eq (l0 : List (S32)) (l1 : List (S45)) (l2 : List (S45)) (l3 : List Int) : hushlaw2_DistMonad.F l0 l1 l2 l3 = (hushlaw2_alive.F).bind fun t209 => (if t209 = true then ((dist_Sure.F l3).bind fun bt210 => (if bt210.2 = 0 then ((plain_Bind.F bt210.1 l1).bind fun bt214 => ((plain_Then.F l1 l3).bind fun t218 => ((dist_Wrong.F t218).bind fun t221 => (if ((bt214.2 == 0) != (t221 == 0)) = true then (some false) else (if bt214.2 = 0 then ((hushref2_Same.F bt214.1 t218).bind fun t222 => (if t222 = true then (hushlaw2_DistMonad.J0 l0 l1 l2) else (some false))) else (hushlaw2_DistMonad.J0 l0 l1 l2)))))) else (hushlaw2_DistMonad.J0 l0 l1 l2))) else (some false)) := by
  refine LimIs.out (?_ : LimIs (fun k => (hushlaw2_alive.f k).bind fun t209 => (if t209 = true then ((dist_Sure.f k l3).bind fun bt210 => (if bt210.2 = 0 then ((plain_Bind.f k bt210.1 l1).bind fun bt214 => ((plain_Then.f k l1 l3).bind fun t218 => ((dist_Wrong.f k t218).bind fun t221 => (if ((bt214.2 == 0) != (t221 == 0)) = true then (some false) else (if bt214.2 = 0 then ((hushref2_Same.f k bt214.1 t218).bind fun t222 => (if t222 = true then (hushlaw2_DistMonad.j0 k l0 l1 l2) else (some false))) else (hushlaw2_DistMonad.j0 k l0 l1 l2)))))) else (hushlaw2_DistMonad.j0 k l0 l1 l2))) else (some false))) _)
  repeat' first
    | (with_reducible exact hushlaw2_alive.F_is)
    | (with_reducible exact dist_Sure.F_is _)
    | (with_reducible exact plain_Bind.F_is _ _)
    | (with_reducible exact plain_Then.F_is _ _)
    | (with_reducible exact dist_Wrong.F_is _)
    | (with_reducible exact hushref2_Same.F_is _ _)
    | (with_reducible exact hushlaw2_DistMonad.J0_is _ _ _)
    | (with_reducible exact LimIs.const _)
    | (with_reducible refine LimIs.ite ?_ ?_)
    | (with_reducible refine LimIs.bind ?_ (fun _ => ?_))
    | exact hushlaw2_alive.F_is
    | exact dist_Sure.F_is _
    | exact plain_Bind.F_is _ _
    | exact plain_Then.F_is _ _
    | exact dist_Wrong.F_is _
    | exact hushref2_Same.F_is _ _
    | exact hushlaw2_DistMonad.J0_is _ _ _
    | exact LimIs.const _
    | refine LimIs.ite ?_ ?_
    | refine LimIs.bind ?_ (fun _ => ?_)
end Go.Proofs.Ytkemhfhmlcljjaa.PQ
end
section
namespace Go.Proofs.Ytkemhfhmlcljjaa.DistPure
set_option linter.unusedVariables false
set_option linter.unusedSimpArgs false
open Go.RowKit Go.Proofs.Ytkemhfhmlcljjaa.PQ Go.Proofs.YtkemhfhmlcljjaaW.PrintWords Go.Proofs.YtkemhfhmlcljjaaW.PrintLast Go.Proofs.YtkemhfhmlcljjaaW.PrintMore Go.Proofs.YtkemhfhmlcljjaaW.EvKit
theorem bulk_fb : ∀ (l : List S45), l.length ≤ (l.map (fun p1z => ((((p1z.f0.map (fun p1z_f0z => 1)).sum + 1) + ((p1z.f1.map (fun p1z_f1z => ((((p1z_f1z.f0.map (fun p1z_f1z_f0z => 1)).sum + 1) + 1) + 1))).sum + 1)) + 1))).sum ∧ ∀ p ∈ l, p.f0.length ≤ (l.map (fun p1z => ((((p1z.f0.map (fun p1z_f0z => 1)).sum + 1) + ((p1z.f1.map (fun p1z_f1z => ((((p1z_f1z.f0.map (fun p1z_f1z_f0z => 1)).sum + 1) + 1) + 1))).sum + 1)) + 1))).sum ∧ p.f1.length ≤ (l.map (fun p1z => ((((p1z.f0.map (fun p1z_f0z => 1)).sum + 1) + ((p1z.f1.map (fun p1z_f1z => ((((p1z_f1z.f0.map (fun p1z_f1z_f0z => 1)).sum + 1) + 1) + 1))).sum + 1)) + 1))).sum ∧ ∀ q ∈ p.f1, q.f0.length ≤ (l.map (fun p1z => ((((p1z.f0.map (fun p1z_f0z => 1)).sum + 1) + ((p1z.f1.map (fun p1z_f1z => ((((p1z_f1z.f0.map (fun p1z_f1z_f0z => 1)).sum + 1) + 1) + 1))).sum + 1)) + 1))).sum
  | [] => ⟨by simp, fun p hp => by cases hp⟩
  | q :: l => by
    obtain ⟨h1, h2⟩ := bulk_fb l
    obtain ⟨h3, h4⟩ := bulk_bd q.f1
    rw [List.map_cons, List.sum_cons, ones]
    refine ⟨by rw [List.length_cons]; omega, fun p hp => ?_⟩
    rcases List.mem_cons.1 hp with e | e
    · rw [e]
      exact ⟨by omega, by omega, fun z hz => by have := h4 z hz; omega⟩
    · obtain ⟨k1, k2, k3⟩ := h2 p e
      exact ⟨by omega, by omega, fun z hz => by have := k3 z hz; omega⟩
theorem make_same {d : List S32} (h : wrongP d = 0) : makeP d = (d, 0) := by
  unfold wrongP at h
  by_cases c : (makeP d).2 = 0
  · rw [if_pos c] at h
    by_cases c2 : d = (makeP d).1
    · exact Prod.ext c2.symm c
    · rw [if_neg c2] at h; cases h
  · rw [if_neg c] at h; exact absurd h c
theorem make_one {o : List Int} (h : smallB o = true) : makeP [(⟨o, 1⟩ : S32)] = ([⟨o, 1⟩], 0) := by
  have h1 : tMerge (sortP [(⟨o, 1⟩ : S32)]) = [⟨o, 1⟩] := by
    have : sortP [(⟨o, 1⟩ : S32)] = [⟨o, 1⟩] := List.mergeSort_singleton _
    rw [this]; rfl
  unfold makeP
  rw [if_pos (by rw [List.all_cons, List.all_nil, Bool.and_true]; exact okP_iff.2 ⟨h, show (0 : Int) ≤ 1 by decide, show (1 : Int) ≤ 1073741824 by decide⟩), h1]
  have g : gOf [(⟨o, 1⟩ : S32)] = 1 := by
    unfold gOf
    rw [List.foldl_cons, List.foldl_nil]
    show Nat.gcd 1 0 = 1
    rfl
  have t : totOf [(⟨o, 1⟩ : S32)] = 1 := rfl
  unfold tDone
  rw [if_neg (by simp), g, t, if_neg (by simp), List.map_cons, List.map_nil]
  rfl
theorem make_one' {o : List Int} (h : (makeP [(⟨o, 1⟩ : S32)]).2 = 0) : smallB o = true := by
  unfold makeP at h
  by_cases c : [(⟨o, 1⟩ : S32)].all okP = true
  · rw [List.all_cons, List.all_nil, Bool.and_true] at c
    exact (okP_iff.1 c).1
  · rw [if_neg c] at h; cases h
theorem wrong_one {o : List Int} (h : smallB o = true) : wrongP [(⟨o, 1⟩ : S32)] = 0 := by
  unfold wrongP
  rw [make_one h, if_pos rfl, if_pos rfl]
theorem tot_one (o : List Int) : totOf [(⟨o, 1⟩ : S32)] = 1 := rfl
theorem left_unit {f : List S45} (hf : FBd f) {o : List Int} (ho : smallB o = true) : bindP f [(⟨o, 1⟩ : S32)] = if wrongP (thenP f o) = 0 then (thenP f o, 0) else ([], wrongP (thenP f o)) := by
  unfold bindP
  rw [if_pos (wrong_one ho)]
  by_cases c : wrongP (thenP f o) = 0
  · have hr := right_of c
    have h1 := hr.pos
    have h2 := hr.few
    have e0 : allP f [(⟨o, 1⟩ : S32)] 1 = (0, (totOf (thenP f o)).toNat) := by
      rw [allP]
      dsimp only
      rw [if_pos c, Nat.gcd_one_left, Nat.div_one, Nat.one_mul, if_neg (by omega), allP]
    have e1 : bindL f (totOf (thenP f o)).toNat [(⟨o, 1⟩ : S32)] = thenP f o := by
      unfold bindL rowP
      rw [List.flatMap_cons, List.flatMap_nil, List.append_nil]
      dsimp only
      rw [show (((totOf (thenP f o)).toNat : Nat) : Int) = totOf (thenP f o) from by omega, Int.ediv_self (by omega)]
      have : ∀ l : List S32, l.map (fun q => (⟨q.f0, 1 * 1 * q.f1⟩ : S32)) = l := fun l => by
        induction l with
        | nil => rfl
        | cons q l ih => rw [List.map_cons, ih, Int.one_mul, Int.one_mul]
      exact this _
    rw [if_pos c, e0, if_pos rfl, tot_one, e1, make_same c]
    dsimp only
    rw [if_neg (by omega)]
  · have e0 : allP f [(⟨o, 1⟩ : S32)] 1 = (wrongP (thenP f o), 1) := by
      rw [allP]
      dsimp only
      rw [if_neg c]
    rw [if_neg c, e0, if_neg c]
theorem all_nil' : ∀ (d : List S32), (∀ p ∈ d, smallB p.f0 = true) → allP [] d 1 = (0, 1)
  | [], _ => rfl
  | p :: d, h => by
    rw [allP]
    have e : thenP [] p.f0 = [(⟨p.f0, 1⟩ : S32)] := rfl
    rw [e, if_pos (wrong_one (h p (by simp))), tot_one]
    exact all_nil' d (fun q hq => h q (by simp [hq]))
theorem right_unit {d : List S32} (hd : RD d) : bindP [] d = (d, 0) := by
  have hs : ∀ p ∈ d, smallB p.f0 = true := fun p hp => (okP_iff.1 (List.all_eq_true.1 hd.right.ok p hp)).1
  have hfew := hd.right.few
  have e1 : ∀ l : List S32, bindL [] 1 l = l := fun l => by
    induction l with
    | nil => rfl
    | cons p l ih =>
      unfold bindL at ih ⊢
      rw [List.flatMap_cons, ih]
      have : rowP [] 1 p = [p] := by
        unfold rowP
        rw [show thenP [] p.f0 = [(⟨p.f0, 1⟩ : S32)] from rfl, tot_one, List.map_cons, List.map_nil]
        have : p.f1 * (((1 : Nat) : Int) / 1) * 1 = p.f1 := by simp
        rw [this]
      rw [this]; rfl
  unfold bindP
  rw [if_pos hd.wr, all_nil' d hs, if_pos rfl, e1, make_same hd.wr]
  dsimp only
  rw [if_neg (by omega)]
def hL (f g : List S45) (d : List S32) : List S45 := d.map (fun p => (⟨p.f0, (bindP g (thenP f p.f0)).1⟩ : S45))
theorem then_hL (f g : List S45) (o : List Int) : ∀ (d : List S32), o ∈ d.map (·.f0) → thenP (hL f g d) o = (bindP g (thenP f o)).1
  | [], h => by cases h
  | p :: d, h => by
    unfold hL
    rw [List.map_cons, thenP]
    by_cases c : p.f0 = o
    · rw [if_pos c, c]
    · rw [if_neg c]
      refine then_hL f g o d ?_
      rw [List.map_cons, List.mem_cons] at h
      rcases h with e | e
      · exact absurd e.symm c
      · exact e
theorem hL_bd {f g : List S45} {d : List S32} (hf : FBd f) (hg : FBd g) (hd : Bd d) : FBd (hL f g d) := by
  refine ⟨by unfold hL; rw [List.length_map]; exact hd.len, fun p hp => ?_, fun p hp => ?_⟩
  · unfold hL at hp
    obtain ⟨q, hq, rfl⟩ := List.mem_map.1 hp
    exact hd.out q hq
  · unfold hL at hp
    obtain ⟨q, hq, rfl⟩ := List.mem_map.1 hp
    exact bindP_bd hg (thenP_bd f _ hf.bd (hd.out q hq))
theorem eE_congr {K K' : List Int → Rat} {l : List S32} (h : ∀ p ∈ l, K p.f0 = K' p.f0) : eE K l = eE K' l := by
  unfold eE
  rw [eS_congr h]
theorem assoc {f g : List S45} {d : List S32} (hf : FBd f) (hg : FBd g) (hd : RD d) (h1 : (bindP f d).2 = 0) (h2 : (bindP g (bindP f d).1).2 = 0) (h3 : ∀ p ∈ d, (bindP g (thenP f p.f0)).2 = 0) (h4 : (bindP (hL f g d) d).2 = 0) :
    (bindP g (bindP f d).1).1 = (bindP (hL f g d) d).1 := by
  have hh := hL_bd hf hg hd.bd
  have b1 := bindP_bd hf hd.bd
  refine same_E (bind_right hg b1 h2) (bind_right hh hd.bd h4) (fun o => ?_)
  rw [bind_E hg b1 h2, bind_E hf hd.bd h1, bind_E hh hd.bd h4]
  refine eE_congr (fun p hp => ?_)
  rw [then_hL f g p.f0 d (List.mem_map.2 ⟨p, hp, rfl⟩), bind_E hg (thenP_bd f _ hf.bd (hd.bd.out p hp)) (h3 p hp)]
theorem law_loop {f g : List S45} {d one : List S32} (hf : FBd f) (hg : FBd g) (hd : RD d) (ho : Bd one) (H : (∀ p ∈ d, (bindP g (thenP f p.f0)).2 = 0) → (bindP (hL f g d) d).2 = 0 → one = (bindP (hL f g d) d).1) : ∀ (m i : Nat), i + m = d.length → (∀ p ∈ d.take i, (bindP g (thenP f p.f0)).2 = 0) →
    hushlaw2_DistMonad.L0 d f g one ((hL f g d).take i) d (d.length : Int) (i : Int) = some true := by
  have hlen := hd.bd.len
  have hh := hL_bd hf hg hd.bd
  have hll : (hL f g d).length = d.length := by unfold hL; rw [List.length_map]
  intro m
  induction m with
  | zero =>
    intro i hi hall
    rw [List.take_of_length_le (by omega)] at hall
    rw [List.take_of_length_le (by omega), hushlaw2_DistMonad.L0_eq, if_neg (by omega), bindF _ hh d hd.bd, Option.bind_some]
    by_cases c : (bindP (hL f g d) d).2 = 0
    · rw [if_pos c, rsameF _ _ ho (bindP_bd hh hd.bd), Option.bind_some, decide_eq_true (H hall c)]
    · rw [if_neg c]
  | succ m ih =>
    intro i hi hall
    have hx : i < d.length := by omega
    have hp : d[i] ∈ d := List.getElem_mem hx
    have e0 : ((hL f g d).take i).length = i := by rw [List.length_take]; omega
    rw [hushlaw2_DistMonad.L0_eq, if_pos (by omega), if_pos (by omega), if_pos (by omega), rd32At hx, thenF f hf, Option.bind_some, bindF g hg _ (thenP_bd f _ hf.bd (hd.bd.out _ hp)), Option.bind_some]
    by_cases c : (bindP g (thenP f d[i].f0)).2 = 0
    · have e1 : (hL f g d).take i ++ [(⟨d[i].f0, (bindP g (thenP f d[i].f0)).1⟩ : S45)] = (hL f g d).take (i + 1) := by
        rw [List.take_succ_eq_append_getElem (by omega)]
        congr 2
        unfold hL
        rw [List.getElem_map]
      rw [if_pos c, if_pos (by omega), w1 (by omega), e1]
      refine ih (i + 1) (by omega) (fun p hp => ?_)
      rw [List.take_succ_eq_append_getElem hx, List.mem_append, List.mem_singleton] at hp
      rcases hp with e | e
      · exact hall p e
      · rw [e]; exact c
    · rw [if_neg c]
theorem sureF (o : List Int) (ho : o.length ≤ 1048576) : dist_Sure.F o = some (makeP [(⟨o, 1⟩ : S32)]) := by
  have hb : Bd [(⟨o, 1⟩ : S32)] := ⟨by simp, fun p hp => by rw [List.mem_singleton.1 hp]; exact ho⟩
  rw [dist_Sure.F_eq, makeF1 _ hb]
  rfl
theorem law_rest {f g : List S45} {d : List S32} (hf : FBd f) (hg : FBd g) (hd : Bd d) : hushlaw2_DistMonad.J0 d f g = some true := by
  have hn : FBd ([] : List S45) := ⟨by simp, fun p hp => (by cases hp), fun p hp => (by cases hp)⟩
  rw [hushlaw2_DistMonad.J0_eq, wrongF d hd, Option.bind_some]
  by_cases c : wrongP d = 0
  · have hR : RD d := ⟨hd, c⟩
    rw [if_pos c, bindF _ hn d hd, Option.bind_some, right_unit hR, if_pos rfl, rsameF _ _ hd hd, Option.bind_some, decide_eq_true rfl, Bool.not_true, hushlaw2_DistMonad.J1_eq, if_neg (by decide), bindF f hf d hd, Option.bind_some]
    by_cases c1 : (bindP f d).2 = 0
    · have b1 := bindP_bd hf hd
      rw [if_pos c1, bindF g hg _ b1, Option.bind_some]
      by_cases c2 : (bindP g (bindP f d).1).2 = 0
      · rw [if_pos c2]
        exact law_loop hf hg hR (bindP_bd hg b1) (fun h3 h4 => assoc hf hg hR c1 c2 h3 h4) d.length 0 (Nat.zero_add _) (fun p hp => by rw [List.take_zero] at hp; cases hp)
      · rw [if_neg c2]
    · rw [if_neg c1]
  · rw [if_neg c]
end Go.Proofs.Ytkemhfhmlcljjaa.DistPure
namespace Go.Proofs.Ytkemhfhmlcljjaa.Pure
open Go.RowKit Go.Proofs.Ytkemhfhmlcljjaa.PQ Go.Proofs.YtkemhfhmlcljjaaW.PrintWords Go.Proofs.YtkemhfhmlcljjaaW.PrintLast Go.Proofs.YtkemhfhmlcljjaaW.PrintMore Go.Proofs.YtkemhfhmlcljjaaW.EvKit Go.Proofs.Ytkemhfhmlcljjaa.DistPure
theorem DistMonad : hushlaw2_DistMonad.Pure := by
  intro d f g o h0 h1 h2 h3 hk
  have b0 := bulk_bd d
  have b1 := bulk_fb f
  have b2 := bulk_fb g
  rw [ones] at hk
  have hd : Bd d := ⟨by omega, fun p hp => by have := b0.2 p hp; omega⟩
  have hf : FBd f := ⟨by omega, fun p hp => by have := (b1.2 p hp).1; omega, fun p hp => ⟨by have := (b1.2 p hp).2.1; omega, fun q hq => by have := (b1.2 p hp).2.2 q hq; omega⟩⟩
  have hg : FBd g := ⟨by omega, fun p hp => by have := (b2.2 p hp).1; omega, fun p hp => ⟨by have := (b2.2 p hp).2.1; omega, fun q hq => by have := (b2.2 p hp).2.2 q hq; omega⟩⟩
  have ho : o.length ≤ 1048576 := by omega
  clear hk b0 b1 b2 h0 h1 h2 h3
  refine (hushlaw2_DistMonad.F_is d f g o).rounds ?_
  have hr := law_rest hf hg hd
  rw [hushlaw2_DistMonad.F_eq, aliveF, Option.bind_some, if_pos rfl, sureF o ho, Option.bind_some]
  by_cases c : (makeP [(⟨o, 1⟩ : S32)]).2 = 0
  · have hs := make_one' c
    have hb : Bd [(⟨o, 1⟩ : S32)] := ⟨by simp, fun p hp => by rw [List.mem_singleton.1 hp]; exact ho⟩
    have ht := thenP_bd f o hf.bd ho
    rw [if_pos c, make_one hs]
    dsimp only
    rw [bindF f hf _ hb, Option.bind_some, thenF f hf, Option.bind_some, wrongF _ ht, Option.bind_some, left_unit hf hs]
    by_cases c2 : wrongP (thenP f o) = 0
    · rw [if_pos c2, c2]
      dsimp only
      rw [if_neg (by decide), if_pos rfl, rsameF _ _ ht ht, Option.bind_some, decide_eq_true rfl, if_pos rfl, hr]
    · rw [if_neg c2]
      dsimp only
      rw [if_neg (by simp), if_neg c2, hr]
  · rw [if_neg c, hr]
end Go.Proofs.Ytkemhfhmlcljjaa.Pure
end

/- The pure texts of this claim, its functions behind all rounds among them, and small steps. Conditions stand in each theorem. -/
import Derived.Test.YtkemhfhmlcljjaaPDx5
import Derived.Test.YtkemhfhmlcljjaaLim
import Derived.Test.YtkemhfhmlcljjaaPDx0
import Derived.Test.YtkemhfhmlcljjaaPDx4
import Derived.Test.YtkemhfhmlcljjaaPDx2
import Derived.Test.YtkemhfhmlcljjaaPDx3
import Derived.Test.YtkemhfhmlcljjaaPDx10
import Derived.Test.YtkemhfhmlcljjaaPDx11
import Derived.Test.YtkemhfhmlcljjaaPDx13
import Derived.Test.YtkemhfhmlcljjaaPDx12
import Derived.Test.YtkemhfhmlcljjaaPDx6
import Derived.Test.YtkemhfhmlcljjaaPDx14
import Derived.Test.YtkemhfhmlcljjaaPDx7
import Derived.Test.YtkemhfhmlcljjaaPDx15
import Derived.Test.YtkemhfhmlcljjaaPDx9
import Derived.Test.YtkemhfhmlcljjaaPDx16
import Derived.Test.YtkemhfhmlcljjaaPDx17
import Derived.Test.YtkemhfhmlcljjaaPDx18
import Derived.Test.YtkemhfhmlcljjaaPDx8
import Derived.Test.YtkemhfhmlcljjaaPDx19
import Derived.Test.YtkemhfhmlcljjaaPDx1
section
namespace Go.Proofs.Ytkemhfhmlcljjaa.PD
open Go.RowKit Go.Proofs.YtkemhfhmlcljjaaW.PrintWords Go.Proofs.YtkemhfhmlcljjaaW.PrintLast Go.Proofs.YtkemhfhmlcljjaaW.PrintMore
open Go.Proofs.YtkemhfhmlcljjaaW.EvKit
set_option linter.unusedVariables false
end Go.Proofs.Ytkemhfhmlcljjaa.PD
end
section
namespace Go.Proofs.Ytkemhfhmlcljjaa.PD
open Go.RowKit Go.Proofs.YtkemhfhmlcljjaaW.PrintWords Go.Proofs.YtkemhfhmlcljjaaW.PrintLast Go.Proofs.YtkemhfhmlcljjaaW.PrintMore
open Go.Proofs.YtkemhfhmlcljjaaW.EvKit
set_option linter.unusedVariables false
noncomputable def slices_IndexFunc_int_int.L0 (x0 : List Int) (x7 : Int) (x8 : Int) : Option (Int) := lim (fun k => slices_IndexFunc_int_int.l0 k x0 x7 x8)
theorem slices_IndexFunc_int_int.L0_is (x0 : List Int) (x7 : Int) (x8 : Int) : LimIs (fun k => slices_IndexFunc_int_int.l0 k x0 x7 x8) (slices_IndexFunc_int_int.L0 x0 x7 x8) := ⟨fun k => (slices_IndexFunc_int_int.mono_l k) x0 x7 x8, rfl⟩
noncomputable def slices_IndexFunc_int_int.F (l0 : List Int) (a1 : Int) : Option (Int) := lim (fun k => slices_IndexFunc_int_int.f k l0 a1)
theorem slices_IndexFunc_int_int.F_is (l0 : List Int) (a1 : Int) : LimIs (fun k => slices_IndexFunc_int_int.f k l0 a1) (slices_IndexFunc_int_int.F l0 a1) := ⟨fun k => slices_IndexFunc_int_int.mono l0 a1 k, rfl⟩
noncomputable def slices_ContainsFunc_int_int.F (l0 : List Int) (a1 : Int) : Option (Bool) := lim (fun k => slices_ContainsFunc_int_int.f k l0 a1)
theorem slices_ContainsFunc_int_int.F_is (l0 : List Int) (a1 : Int) : LimIs (fun k => slices_ContainsFunc_int_int.f k l0 a1) (slices_ContainsFunc_int_int.F l0 a1) := ⟨fun k => slices_ContainsFunc_int_int.mono l0 a1 k, rfl⟩
noncomputable def dist_small.F (l0 : List Int) : Option (Bool) := lim (fun k => dist_small.f k l0)
theorem dist_small.F_is (l0 : List Int) : LimIs (fun k => dist_small.f k l0) (dist_small.F l0) := ⟨fun k => dist_small.mono l0 k, rfl⟩
set_option maxRecDepth 100000 in
theorem slices_IndexFunc_int_int.L0_eq (x0 : List Int) (x7 : Int) (x8 : Int) : slices_IndexFunc_int_int.L0 x0 x7 x8 = if x8 < x7 then (if 0 ≤ x8 then (if x8 < (x0.length : Int) then ((dist_small_1.f (rd x0 x8)).bind fun t111 => (if t111 = true then (some x8) else (slices_IndexFunc_int_int.L0 x0 x7 (wrap64 (x8 + 1))))) else (none)) else (none)) else (some (-1)) := by
  refine LimIs.step' (slices_IndexFunc_int_int.L0_is x0 x7 x8).1 (b := fun k => if x8 < x7 then (if 0 ≤ x8 then (if x8 < (x0.length : Int) then ((dist_small_1.f (rd x0 x8)).bind fun t111 => (if t111 = true then (some x8) else (slices_IndexFunc_int_int.l0 k x0 x7 (wrap64 (x8 + 1))))) else (none)) else (none)) else (some (-1))) (fun k => by first | rfl | rw [slices_IndexFunc_int_int.l0]) ?_
  repeat' first
    | (with_reducible exact slices_IndexFunc_int_int.L0_is _ _ _)
    | (with_reducible exact LimIs.const _)
    | (with_reducible refine LimIs.ite ?_ ?_)
    | (with_reducible refine LimIs.bind ?_ (fun _ => ?_))
    | exact slices_IndexFunc_int_int.L0_is _ _ _
    | exact LimIs.const _
    | refine LimIs.ite ?_ ?_
    | refine LimIs.bind ?_ (fun _ => ?_)
set_option maxRecDepth 100000 in
theorem slices_IndexFunc_int_int.F_eq (l0 : List Int) (a1 : Int) : slices_IndexFunc_int_int.F l0 a1 = slices_IndexFunc_int_int.L0 l0 (l0.length : Int) 0 := by
  refine LimIs.out (?_ : LimIs (fun k => slices_IndexFunc_int_int.l0 k l0 (l0.length : Int) 0) _)
  repeat' first
    | (with_reducible exact slices_IndexFunc_int_int.L0_is _ _ _)
    | (with_reducible exact LimIs.const _)
    | (with_reducible refine LimIs.ite ?_ ?_)
    | (with_reducible refine LimIs.bind ?_ (fun _ => ?_))
    | exact slices_IndexFunc_int_int.L0_is _ _ _
    | exact LimIs.const _
    | refine LimIs.ite ?_ ?_
    | refine LimIs.bind ?_ (fun _ => ?_)
set_option maxRecDepth 100000 in
theorem slices_ContainsFunc_int_int.F_eq (l0 : List Int) (a1 : Int) : slices_ContainsFunc_int_int.F l0 a1 = (slices_IndexFunc_int_int.F l0 a1).bind fun t112 => (some (decide (t112 ≥ 0))) := by
  refine LimIs.out (?_ : LimIs (fun k => (slices_IndexFunc_int_int.f k l0 a1).bind fun t112 => (some (decide (t112 ≥ 0)))) _)
  repeat' first
    | (with_reducible exact slices_IndexFunc_int_int.F_is _ _)
    | (with_reducible exact LimIs.const _)
    | (with_reducible refine LimIs.ite ?_ ?_)
    | (with_reducible refine LimIs.bind ?_ (fun _ => ?_))
    | exact slices_IndexFunc_int_int.F_is _ _
    | exact LimIs.const _
    | refine LimIs.ite ?_ ?_
    | refine LimIs.bind ?_ (fun _ => ?_)
set_option maxRecDepth 100000 in
theorem dist_small.F_eq (l0 : List Int) : dist_small.F l0 = if (l0.length : Int) ≤ 16 then ((slices_ContainsFunc_int_int.F l0 990000076).bind fun t113 => (some (!t113))) else (some false) := by
  refine LimIs.out (?_ : LimIs (fun k => if (l0.length : Int) ≤ 16 then ((slices_ContainsFunc_int_int.f k l0 990000076).bind fun t113 => (some (!t113))) else (some false)) _)
  repeat' first
    | (with_reducible exact slices_ContainsFunc_int_int.F_is _ _)
    | (with_reducible exact LimIs.const _)
    | (with_reducible refine LimIs.ite ?_ ?_)
    | (with_reducible refine LimIs.bind ?_ (fun _ => ?_))
    | exact slices_ContainsFunc_int_int.F_is _ _
    | exact LimIs.const _
    | refine LimIs.ite ?_ ?_
    | refine LimIs.bind ?_ (fun _ => ?_)
end Go.Proofs.Ytkemhfhmlcljjaa.PD
end
section
namespace Go.Proofs.Ytkemhfhmlcljjaa.PD
open Go.RowKit Go.Proofs.YtkemhfhmlcljjaaW.PrintWords Go.Proofs.YtkemhfhmlcljjaaW.PrintLast Go.Proofs.YtkemhfhmlcljjaaW.PrintMore
open Go.Proofs.YtkemhfhmlcljjaaW.EvKit
set_option linter.unusedVariables false
noncomputable def slices_Equal_int_int.L0 (x0 : List Int) (x1 : List Int) (x12 : Int) (x13 : Int) : Option (Bool) := lim (fun k => slices_Equal_int_int.l0 k x0 x1 x12 x13)
theorem slices_Equal_int_int.L0_is (x0 : List Int) (x1 : List Int) (x12 : Int) (x13 : Int) : LimIs (fun k => slices_Equal_int_int.l0 k x0 x1 x12 x13) (slices_Equal_int_int.L0 x0 x1 x12 x13) := ⟨fun k => (slices_Equal_int_int.mono_l k) x0 x1 x12 x13, rfl⟩
noncomputable def dist_total.L0 (x3 : Int) (x6 : List (S32)) (x7 : Int) (x8 : Int) : Option (Int) := lim (fun k => dist_total.l0 k x3 x6 x7 x8)
theorem dist_total.L0_is (x3 : Int) (x6 : List (S32)) (x7 : Int) (x8 : Int) : LimIs (fun k => dist_total.l0 k x3 x6 x7 x8) (dist_total.L0 x3 x6 x7 x8) := ⟨fun k => (dist_total.mono_l k) x3 x6 x7 x8, rfl⟩
noncomputable def dist_gcd.L0 (x0 : Int) (x1 : Int) : Option (Int) := lim (fun k => dist_gcd.l0 k x0 x1)
theorem dist_gcd.L0_is (x0 : Int) (x1 : Int) : LimIs (fun k => dist_gcd.l0 k x0 x1) (dist_gcd.L0 x0 x1) := ⟨fun k => (dist_gcd.mono_l k) x0 x1, rfl⟩
noncomputable def slices_Equal_int_int.F (l0 : List Int) (l1 : List Int) : Option (Bool) := lim (fun k => slices_Equal_int_int.f k l0 l1)
theorem slices_Equal_int_int.F_is (l0 : List Int) (l1 : List Int) : LimIs (fun k => slices_Equal_int_int.f k l0 l1) (slices_Equal_int_int.F l0 l1) := ⟨fun k => slices_Equal_int_int.mono l0 l1 k, rfl⟩
noncomputable def dist_total.F (l0 : List (S32)) : Option (Int) := lim (fun k => dist_total.f k l0)
theorem dist_total.F_is (l0 : List (S32)) : LimIs (fun k => dist_total.f k l0) (dist_total.F l0) := ⟨fun k => dist_total.mono l0 k, rfl⟩
noncomputable def dist_gcd.F (a0 : Int) (a1 : Int) : Option (Int) := lim (fun k => dist_gcd.f k a0 a1)
theorem dist_gcd.F_is (a0 : Int) (a1 : Int) : LimIs (fun k => dist_gcd.f k a0 a1) (dist_gcd.F a0 a1) := ⟨fun k => dist_gcd.mono a0 a1 k, rfl⟩
set_option maxRecDepth 100000 in
theorem slices_Equal_int_int.L0_eq (x0 : List Int) (x1 : List Int) (x12 : Int) (x13 : Int) : slices_Equal_int_int.L0 x0 x1 x12 x13 = if x13 < x12 then (if 0 ≤ x13 then (if x13 < (x0.length : Int) then (if x13 < (x1.length : Int) then (if (rd x0 x13) = (rd x1 x13) then (slices_Equal_int_int.L0 x0 x1 x12 (wrap64 (x13 + 1))) else (some false)) else (none)) else (none)) else (none)) else (some true) := by
  refine LimIs.step' (slices_Equal_int_int.L0_is x0 x1 x12 x13).1 (b := fun k => if x13 < x12 then (if 0 ≤ x13 then (if x13 < (x0.length : Int) then (if x13 < (x1.length : Int) then (if (rd x0 x13) = (rd x1 x13) then (slices_Equal_int_int.l0 k x0 x1 x12 (wrap64 (x13 + 1))) else (some false)) else (none)) else (none)) else (none)) else (some true)) (fun k => by first | rfl | rw [slices_Equal_int_int.l0]) ?_
  repeat' first
    | (with_reducible exact slices_Equal_int_int.L0_is _ _ _ _)
    | (with_reducible exact LimIs.const _)
    | (with_reducible refine LimIs.ite ?_ ?_)
    | (with_reducible refine LimIs.bind ?_ (fun _ => ?_))
    | exact slices_Equal_int_int.L0_is _ _ _ _
    | exact LimIs.const _
    | refine LimIs.ite ?_ ?_
    | refine LimIs.bind ?_ (fun _ => ?_)
set_option maxRecDepth 100000 in
theorem dist_total.L0_eq (x3 : Int) (x6 : List (S32)) (x7 : Int) (x8 : Int) : dist_total.L0 x3 x6 x7 x8 = if x8 < x7 then (if 0 ≤ x8 then (if x8 < (x6.length : Int) then (dist_total.L0 (wrap64 (x3 + ((rd_T32 x6 x8).f1))) x6 x7 (wrap64 (x8 + 1))) else (none)) else (none)) else (some x3) := by
  refine LimIs.step' (dist_total.L0_is x3 x6 x7 x8).1 (b := fun k => if x8 < x7 then (if 0 ≤ x8 then (if x8 < (x6.length : Int) then (dist_total.l0 k (wrap64 (x3 + ((rd_T32 x6 x8).f1))) x6 x7 (wrap64 (x8 + 1))) else (none)) else (none)) else (some x3)) (fun k => by first | rfl | rw [dist_total.l0]) ?_
  repeat' first
    | (with_reducible exact dist_total.L0_is _ _ _ _)
    | (with_reducible exact LimIs.const _)
    | (with_reducible refine LimIs.ite ?_ ?_)
    | (with_reducible refine LimIs.bind ?_ (fun _ => ?_))
    | exact dist_total.L0_is _ _ _ _
    | exact LimIs.const _
    | refine LimIs.ite ?_ ?_
    | refine LimIs.bind ?_ (fun _ => ?_)
set_option maxRecDepth 100000 in
theorem dist_gcd.L0_eq (x0 : Int) (x1 : Int) : dist_gcd.L0 x0 x1 = if x1 = 0 then (some x0) else (dist_gcd.L0 x1 (Int.tmod x0 x1)) := by
  refine LimIs.step' (dist_gcd.L0_is x0 x1).1 (b := fun k => if x1 = 0 then (some x0) else (dist_gcd.l0 k x1 (Int.tmod x0 x1))) (fun k => by first | rfl | rw [dist_gcd.l0]) ?_
  repeat' first
    | (with_reducible exact dist_gcd.L0_is _ _)
    | (with_reducible exact LimIs.const _)
    | (with_reducible refine LimIs.ite ?_ ?_)
    | (with_reducible refine LimIs.bind ?_ (fun _ => ?_))
    | exact dist_gcd.L0_is _ _
    | exact LimIs.const _
    | refine LimIs.ite ?_ ?_
    | refine LimIs.bind ?_ (fun _ => ?_)
set_option maxRecDepth 100000 in
theorem slices_Equal_int_int.F_eq (l0 : List Int) (l1 : List Int) : slices_Equal_int_int.F l0 l1 = if (l0.length : Int) = (l1.length : Int) then (slices_Equal_int_int.L0 l0 l1 (l0.length : Int) 0) else (some false) := by
  refine LimIs.out (?_ : LimIs (fun k => if (l0.length : Int) = (l1.length : Int) then (slices_Equal_int_int.l0 k l0 l1 (l0.length : Int) 0) else (some false)) _)
  repeat' first
    | (with_reducible exact slices_Equal_int_int.L0_is _ _ _ _)
    | (with_reducible exact LimIs.const _)
    | (with_reducible refine LimIs.ite ?_ ?_)
    | (with_reducible refine LimIs.bind ?_ (fun _ => ?_))
    | exact slices_Equal_int_int.L0_is _ _ _ _
    | exact LimIs.const _
    | refine LimIs.ite ?_ ?_
    | refine LimIs.bind ?_ (fun _ => ?_)
set_option maxRecDepth 100000 in
theorem dist_total.F_eq (l0 : List (S32)) : dist_total.F l0 = dist_total.L0 0 l0 (l0.length : Int) 0 := by
  refine LimIs.out (?_ : LimIs (fun k => dist_total.l0 k 0 l0 (l0.length : Int) 0) _)
  repeat' first
    | (with_reducible exact dist_total.L0_is _ _ _ _)
    | (with_reducible exact LimIs.const _)
    | (with_reducible refine LimIs.ite ?_ ?_)
    | (with_reducible refine LimIs.bind ?_ (fun _ => ?_))
    | exact dist_total.L0_is _ _ _ _
    | exact LimIs.const _
    | refine LimIs.ite ?_ ?_
    | refine LimIs.bind ?_ (fun _ => ?_)
set_option maxRecDepth 100000 in
theorem dist_gcd.F_eq (a0 : Int) (a1 : Int) : dist_gcd.F a0 a1 = dist_gcd.L0 a0 a1 := by
  refine LimIs.out (?_ : LimIs (fun k => dist_gcd.l0 k a0 a1) _)
  repeat' first
    | (with_reducible exact dist_gcd.L0_is _ _)
    | (with_reducible exact LimIs.const _)
    | (with_reducible refine LimIs.ite ?_ ?_)
    | (with_reducible refine LimIs.bind ?_ (fun _ => ?_))
    | exact dist_gcd.L0_is _ _
    | exact LimIs.const _
    | refine LimIs.ite ?_ ?_
    | refine LimIs.bind ?_ (fun _ => ?_)
end Go.Proofs.Ytkemhfhmlcljjaa.PD
end
section
namespace Go.Proofs.Ytkemhfhmlcljjaa.PD
open Go.RowKit Go.Proofs.YtkemhfhmlcljjaaW.PrintWords Go.Proofs.YtkemhfhmlcljjaaW.PrintLast Go.Proofs.YtkemhfhmlcljjaaW.PrintMore
open Go.Proofs.YtkemhfhmlcljjaaW.EvKit
set_option linter.unusedVariables false
noncomputable def slices_Compare_int_int.L0 (x0 : List Int) (x1 : List Int) (x9 : List Int) (x10 : Int) (x11 : Int) : Option (Int) := lim (fun k => slices_Compare_int_int.l0 k x0 x1 x9 x10 x11)
theorem slices_Compare_int_int.L0_is (x0 : List Int) (x1 : List Int) (x9 : List Int) (x10 : Int) (x11 : Int) : LimIs (fun k => slices_Compare_int_int.l0 k x0 x1 x9 x10 x11) (slices_Compare_int_int.L0 x0 x1 x9 x10 x11) := ⟨fun k => (slices_Compare_int_int.mono_l k) x0 x1 x9 x10 x11, rfl⟩
noncomputable def slices_Compare_int_int.F (l0 : List Int) (l1 : List Int) : Option (Int) := lim (fun k => slices_Compare_int_int.f k l0 l1)
theorem slices_Compare_int_int.F_is (l0 : List Int) (l1 : List Int) : LimIs (fun k => slices_Compare_int_int.f k l0 l1) (slices_Compare_int_int.F l0 l1) := ⟨fun k => slices_Compare_int_int.mono l0 l1 k, rfl⟩
set_option maxRecDepth 100000 in
theorem slices_Compare_int_int.L0_eq (x0 : List Int) (x1 : List Int) (x9 : List Int) (x10 : Int) (x11 : Int) : slices_Compare_int_int.L0 x0 x1 x9 x10 x11 = if x11 < x10 then (if 0 ≤ x11 then (if x11 < (x9.length : Int) then (if x11 ≥ (x1.length : Int) then (some 1) else (if x11 < (x1.length : Int) then ((cmp_Compare_int.f (rd x9 x11) (rd x1 x11)).bind fun t109 => (if t109 = 0 then (slices_Compare_int_int.L0 x0 x1 x9 x10 (wrap64 (x11 + 1))) else (some t109))) else (none))) else (none)) else (none)) else (if (x0.length : Int) < (x1.length : Int) then (some (-1)) else (some 0)) := by
  refine LimIs.step' (slices_Compare_int_int.L0_is x0 x1 x9 x10 x11).1 (b := fun k => if x11 < x10 then (if 0 ≤ x11 then (if x11 < (x9.length : Int) then (if x11 ≥ (x1.length : Int) then (some 1) else (if x11 < (x1.length : Int) then ((cmp_Compare_int.f (rd x9 x11) (rd x1 x11)).bind fun t109 => (if t109 = 0 then (slices_Compare_int_int.l0 k x0 x1 x9 x10 (wrap64 (x11 + 1))) else (some t109))) else (none))) else (none)) else (none)) else (if (x0.length : Int) < (x1.length : Int) then (some (-1)) else (some 0))) (fun k => by first | rfl | rw [slices_Compare_int_int.l0]) ?_
  repeat' first
    | (with_reducible exact slices_Compare_int_int.L0_is _ _ _ _ _)
    | (with_reducible exact LimIs.const _)
    | (with_reducible refine LimIs.ite ?_ ?_)
    | (with_reducible refine LimIs.bind ?_ (fun _ => ?_))
    | exact slices_Compare_int_int.L0_is _ _ _ _ _
    | exact LimIs.const _
    | refine LimIs.ite ?_ ?_
    | refine LimIs.bind ?_ (fun _ => ?_)
set_option maxRecDepth 100000 in
theorem slices_Compare_int_int.F_eq (l0 : List Int) (l1 : List Int) : slices_Compare_int_int.F l0 l1 = slices_Compare_int_int.L0 l0 l1 l0 (l0.length : Int) 0 := by
  refine LimIs.out (?_ : LimIs (fun k => slices_Compare_int_int.l0 k l0 l1 l0 (l0.length : Int) 0) _)
  repeat' first
    | (with_reducible exact slices_Compare_int_int.L0_is _ _ _ _ _)
    | (with_reducible exact LimIs.const _)
    | (with_reducible refine LimIs.ite ?_ ?_)
    | (with_reducible refine LimIs.bind ?_ (fun _ => ?_))
    | exact slices_Compare_int_int.L0_is _ _ _ _ _
    | exact LimIs.const _
    | refine LimIs.ite ?_ ?_
    | refine LimIs.bind ?_ (fun _ => ?_)
end Go.Proofs.Ytkemhfhmlcljjaa.PD
end
section
namespace Go.Proofs.Ytkemhfhmlcljjaa.PD
open Go.RowKit Go.Proofs.YtkemhfhmlcljjaaW.PrintWords Go.Proofs.YtkemhfhmlcljjaaW.PrintLast Go.Proofs.YtkemhfhmlcljjaaW.PrintMore
open Go.Proofs.YtkemhfhmlcljjaaW.EvKit
set_option linter.unusedVariables false
noncomputable def dist_tidy.F (l0 : List S32) : Option (List S32 × Int) := lim (fun k => dist_tidy.f k l0)
theorem dist_tidy.F_is (l0 : List S32) : LimIs (fun k => dist_tidy.f k l0) (dist_tidy.F l0) := ⟨fun k => dist_tidy.mono l0 k, rfl⟩
set_option maxRecDepth 100000 in
theorem dist_tidy.F_eq (l0 : List S32) : dist_tidy.F l0 = if tGuard l0 = true then some (tDone (tMerge (sortP l0))) else none := by
  refine LimIs.out (?_ : LimIs (fun k => if tGuard l0 = true then some (tDone (tMerge (sortP l0))) else none) _)
  repeat' first
    | (with_reducible exact LimIs.const _)
    | (with_reducible refine LimIs.ite ?_ ?_)
    | (with_reducible refine LimIs.bind ?_ (fun _ => ?_))
    | exact LimIs.const _
    | refine LimIs.ite ?_ ?_
    | refine LimIs.bind ?_ (fun _ => ?_)
end Go.Proofs.Ytkemhfhmlcljjaa.PD
end
section
namespace Go.Proofs.Ytkemhfhmlcljjaa.PD
open Go.RowKit Go.Proofs.YtkemhfhmlcljjaaW.PrintWords Go.Proofs.YtkemhfhmlcljjaaW.PrintLast Go.Proofs.YtkemhfhmlcljjaaW.PrintMore
open Go.Proofs.YtkemhfhmlcljjaaW.EvKit
set_option linter.unusedVariables false
noncomputable def hushref2_Small.L0 (x8 : List Int) (x9 : Int) (x10 : Int) : Option (Bool) := lim (fun k => hushref2_Small.l0 k x8 x9 x10)
theorem hushref2_Small.L0_is (x8 : List Int) (x9 : Int) (x10 : Int) : LimIs (fun k => hushref2_Small.l0 k x8 x9 x10) (hushref2_Small.L0 x8 x9 x10) := ⟨fun k => (hushref2_Small.mono_l k) x8 x9 x10, rfl⟩
noncomputable def hushref2_Compare.L0 (x0 : List Int) (x1 : List Int) (x7 : Int) (x8 : Int) : Option (Int) := lim (fun k => hushref2_Compare.l0 k x0 x1 x7 x8)
theorem hushref2_Compare.L0_is (x0 : List Int) (x1 : List Int) (x7 : Int) (x8 : Int) : LimIs (fun k => hushref2_Compare.l0 k x0 x1 x7 x8) (hushref2_Compare.L0 x0 x1 x7 x8) := ⟨fun k => (hushref2_Compare.mono_l k) x0 x1 x7 x8, rfl⟩
noncomputable def hushref2_Weight.L0 (x1 : List Int) (x5 : Int) (x8 : List (S32)) (x9 : Int) (x10 : Int) : Option (Int) := lim (fun k => hushref2_Weight.l0 k x1 x5 x8 x9 x10)
theorem hushref2_Weight.L0_is (x1 : List Int) (x5 : Int) (x8 : List (S32)) (x9 : Int) (x10 : Int) : LimIs (fun k => hushref2_Weight.l0 k x1 x5 x8 x9 x10) (hushref2_Weight.L0 x1 x5 x8 x9 x10) := ⟨fun k => (hushref2_Weight.mono_l k) x1 x5 x8 x9 x10, rfl⟩
noncomputable def hushref2_Small.F (l0 : List Int) : Option (Bool) := lim (fun k => hushref2_Small.f k l0)
theorem hushref2_Small.F_is (l0 : List Int) : LimIs (fun k => hushref2_Small.f k l0) (hushref2_Small.F l0) := ⟨fun k => hushref2_Small.mono l0 k, rfl⟩
noncomputable def hushref2_Compare.F (l0 : List Int) (l1 : List Int) : Option (Int) := lim (fun k => hushref2_Compare.f k l0 l1)
theorem hushref2_Compare.F_is (l0 : List Int) (l1 : List Int) : LimIs (fun k => hushref2_Compare.f k l0 l1) (hushref2_Compare.F l0 l1) := ⟨fun k => hushref2_Compare.mono l0 l1 k, rfl⟩
noncomputable def hushref2_Weight.F (l0 : List (S32)) (l1 : List Int) : Option (Int) := lim (fun k => hushref2_Weight.f k l0 l1)
theorem hushref2_Weight.F_is (l0 : List (S32)) (l1 : List Int) : LimIs (fun k => hushref2_Weight.f k l0 l1) (hushref2_Weight.F l0 l1) := ⟨fun k => hushref2_Weight.mono l0 l1 k, rfl⟩
set_option maxRecDepth 100000 in
theorem hushref2_Small.L0_eq (x8 : List Int) (x9 : Int) (x10 : Int) : hushref2_Small.L0 x8 x9 x10 = if x10 < x9 then (if 0 ≤ x10 then (if x10 < (x8.length : Int) then (if (rd x8 x10) > 1073741824 then (some false) else (if (rd x8 x10) < (-1073741824) then (some false) else (hushref2_Small.L0 x8 x9 (wrap64 (x10 + 1))))) else (none)) else (none)) else (some true) := by
  refine LimIs.step' (hushref2_Small.L0_is x8 x9 x10).1 (b := fun k => if x10 < x9 then (if 0 ≤ x10 then (if x10 < (x8.length : Int) then (if (rd x8 x10) > 1073741824 then (some false) else (if (rd x8 x10) < (-1073741824) then (some false) else (hushref2_Small.l0 k x8 x9 (wrap64 (x10 + 1))))) else (none)) else (none)) else (some true)) (fun k => by first | rfl | rw [hushref2_Small.l0]) ?_
  repeat' first
    | (with_reducible exact hushref2_Small.L0_is _ _ _)
    | (with_reducible exact LimIs.const _)
    | (with_reducible refine LimIs.ite ?_ ?_)
    | (with_reducible refine LimIs.bind ?_ (fun _ => ?_))
    | exact hushref2_Small.L0_is _ _ _
    | exact LimIs.const _
    | refine LimIs.ite ?_ ?_
    | refine LimIs.bind ?_ (fun _ => ?_)
set_option maxRecDepth 100000 in
theorem hushref2_Compare.L0_eq (x0 : List Int) (x1 : List Int) (x7 : Int) (x8 : Int) : hushref2_Compare.L0 x0 x1 x7 x8 = if x8 < x7 then (if x8 ≥ (x1.length : Int) then (some 1) else (if 0 ≤ x8 then (if x8 < (x0.length : Int) then (if x8 < (x1.length : Int) then (if (rd x0 x8) = (rd x1 x8) then (hushref2_Compare.L0 x0 x1 x7 (wrap64 (x8 + 1))) else (if (rd x0 x8) < (rd x1 x8) then (some (-1)) else (some 1))) else (none)) else (none)) else (none))) else (if (x0.length : Int) < (x1.length : Int) then (some (-1)) else (some 0)) := by
  refine LimIs.step' (hushref2_Compare.L0_is x0 x1 x7 x8).1 (b := fun k => if x8 < x7 then (if x8 ≥ (x1.length : Int) then (some 1) else (if 0 ≤ x8 then (if x8 < (x0.length : Int) then (if x8 < (x1.length : Int) then (if (rd x0 x8) = (rd x1 x8) then (hushref2_Compare.l0 k x0 x1 x7 (wrap64 (x8 + 1))) else (if (rd x0 x8) < (rd x1 x8) then (some (-1)) else (some 1))) else (none)) else (none)) else (none))) else (if (x0.length : Int) < (x1.length : Int) then (some (-1)) else (some 0))) (fun k => by first | rfl | rw [hushref2_Compare.l0]) ?_
  repeat' first
    | (with_reducible exact hushref2_Compare.L0_is _ _ _ _)
    | (with_reducible exact LimIs.const _)
    | (with_reducible refine LimIs.ite ?_ ?_)
    | (with_reducible refine LimIs.bind ?_ (fun _ => ?_))
    | exact hushref2_Compare.L0_is _ _ _ _
    | exact LimIs.const _
    | refine LimIs.ite ?_ ?_
    | refine LimIs.bind ?_ (fun _ => ?_)
set_option maxRecDepth 100000 in
theorem hushref2_Weight.L0_eq (x1 : List Int) (x5 : Int) (x8 : List (S32)) (x9 : Int) (x10 : Int) : hushref2_Weight.L0 x1 x5 x8 x9 x10 = if x10 < x9 then (if 0 ≤ x10 then (if x10 < (x8.length : Int) then ((hushref2_Compare.F ((rd_T32 x8 x10).f0) x1).bind fun t150 => (if t150 = 0 then (hushref2_Weight.L0 x1 (wrap64 (x5 + ((rd_T32 x8 x10).f1))) x8 x9 (wrap64 (x10 + 1))) else (hushref2_Weight.L0 x1 x5 x8 x9 (wrap64 (x10 + 1))))) else (none)) else (none)) else (some x5) := by
  refine LimIs.step' (hushref2_Weight.L0_is x1 x5 x8 x9 x10).1 (b := fun k => if x10 < x9 then (if 0 ≤ x10 then (if x10 < (x8.length : Int) then ((hushref2_Compare.f k ((rd_T32 x8 x10).f0) x1).bind fun t150 => (if t150 = 0 then (hushref2_Weight.l0 k x1 (wrap64 (x5 + ((rd_T32 x8 x10).f1))) x8 x9 (wrap64 (x10 + 1))) else (hushref2_Weight.l0 k x1 x5 x8 x9 (wrap64 (x10 + 1))))) else (none)) else (none)) else (some x5)) (fun k => by first | rfl | rw [hushref2_Weight.l0]) ?_
  repeat' first
    | (with_reducible exact hushref2_Compare.F_is _ _)
    | (with_reducible exact hushref2_Weight.L0_is _ _ _ _ _)
    | (with_reducible exact LimIs.const _)
    | (with_reducible refine LimIs.ite ?_ ?_)
    | (with_reducible refine LimIs.bind ?_ (fun _ => ?_))
    | exact hushref2_Compare.F_is _ _
    | exact hushref2_Weight.L0_is _ _ _ _ _
    | exact LimIs.const _
    | refine LimIs.ite ?_ ?_
    | refine LimIs.bind ?_ (fun _ => ?_)
set_option maxRecDepth 100000 in
theorem hushref2_Small.F_eq (l0 : List Int) : hushref2_Small.F l0 = if (l0.length : Int) > 16 then (some false) else (hushref2_Small.L0 l0 (l0.length : Int) 0) := by
  refine LimIs.out (?_ : LimIs (fun k => if (l0.length : Int) > 16 then (some false) else (hushref2_Small.l0 k l0 (l0.length : Int) 0)) _)
  repeat' first
    | (with_reducible exact hushref2_Small.L0_is _ _ _)
    | (with_reducible exact LimIs.const _)
    | (with_reducible refine LimIs.ite ?_ ?_)
    | (with_reducible refine LimIs.bind ?_ (fun _ => ?_))
    | exact hushref2_Small.L0_is _ _ _
    | exact LimIs.const _
    | refine LimIs.ite ?_ ?_
    | refine LimIs.bind ?_ (fun _ => ?_)
set_option maxRecDepth 100000 in
theorem hushref2_Compare.F_eq (l0 : List Int) (l1 : List Int) : hushref2_Compare.F l0 l1 = hushref2_Compare.L0 l0 l1 (l0.length : Int) 0 := by
  refine LimIs.out (?_ : LimIs (fun k => hushref2_Compare.l0 k l0 l1 (l0.length : Int) 0) _)
  repeat' first
    | (with_reducible exact hushref2_Compare.L0_is _ _ _ _)
    | (with_reducible exact LimIs.const _)
    | (with_reducible refine LimIs.ite ?_ ?_)
    | (with_reducible refine LimIs.bind ?_ (fun _ => ?_))
    | exact hushref2_Compare.L0_is _ _ _ _
    | exact LimIs.const _
    | refine LimIs.ite ?_ ?_
    | refine LimIs.bind ?_ (fun _ => ?_)
set_option maxRecDepth 100000 in
theorem hushref2_Weight.F_eq (l0 : List (S32)) (l1 : List Int) : hushref2_Weight.F l0 l1 = hushref2_Weight.L0 l1 0 l0 (l0.length : Int) 0 := by
  refine LimIs.out (?_ : LimIs (fun k => hushref2_Weight.l0 k l1 0 l0 (l0.length : Int) 0) _)
  repeat' first
    | (with_reducible exact hushref2_Weight.L0_is _ _ _ _ _)
    | (with_reducible exact LimIs.const _)
    | (with_reducible refine LimIs.ite ?_ ?_)
    | (with_reducible refine LimIs.bind ?_ (fun _ => ?_))
    | exact hushref2_Weight.L0_is _ _ _ _ _
    | exact LimIs.const _
    | refine LimIs.ite ?_ ?_
    | refine LimIs.bind ?_ (fun _ => ?_)
end Go.Proofs.Ytkemhfhmlcljjaa.PD
end
section
namespace Go.Proofs.Ytkemhfhmlcljjaa.PD
open Go.RowKit Go.Proofs.YtkemhfhmlcljjaaW.PrintWords Go.Proofs.YtkemhfhmlcljjaaW.PrintLast Go.Proofs.YtkemhfhmlcljjaaW.PrintMore
open Go.Proofs.YtkemhfhmlcljjaaW.EvKit
set_option linter.unusedVariables false
noncomputable def hushref2_Total.L0 (x3 : Int) (x6 : List (S32)) (x7 : Int) (x8 : Int) : Option (Int) := lim (fun k => hushref2_Total.l0 k x3 x6 x7 x8)
theorem hushref2_Total.L0_is (x3 : Int) (x6 : List (S32)) (x7 : Int) (x8 : Int) : LimIs (fun k => hushref2_Total.l0 k x3 x6 x7 x8) (hushref2_Total.L0 x3 x6 x7 x8) := ⟨fun k => (hushref2_Total.mono_l k) x3 x6 x7 x8, rfl⟩
noncomputable def hushref1_Divisor.J1 (x0 : Int) (x1 : Int) (x5 : Int) : Option (Int) := lim (fun k => hushref1_Divisor.j1 k x0 x1 x5)
theorem hushref1_Divisor.J1_is (x0 : Int) (x1 : Int) (x5 : Int) : LimIs (fun k => hushref1_Divisor.j1 k x0 x1 x5) (hushref1_Divisor.J1 x0 x1 x5) := ⟨fun k => (hushref1_Divisor.mono_l k).1 x0 x1 x5, rfl⟩
noncomputable def hushref1_Divisor.L1 (x0 : Int) (x1 : Int) (x5 : Int) : Option (Int) := lim (fun k => hushref1_Divisor.l1 k x0 x1 x5)
theorem hushref1_Divisor.L1_is (x0 : Int) (x1 : Int) (x5 : Int) : LimIs (fun k => hushref1_Divisor.l1 k x0 x1 x5) (hushref1_Divisor.L1 x0 x1 x5) := ⟨fun k => (hushref1_Divisor.mono_l k).2.1 x0 x1 x5, rfl⟩
noncomputable def hushref1_Divisor.L2 (x0 : Int) (x5 : Int) : Option (Int) := lim (fun k => hushref1_Divisor.l2 k x0 x5)
theorem hushref1_Divisor.L2_is (x0 : Int) (x5 : Int) : LimIs (fun k => hushref1_Divisor.l2 k x0 x5) (hushref1_Divisor.L2 x0 x5) := ⟨fun k => (hushref1_Divisor.mono_l k).2.2.1 x0 x5, rfl⟩
noncomputable def hushref1_Divisor.L0 (x0 : Int) (x1 : Int) (x5 : Int) : Option (Int) := lim (fun k => hushref1_Divisor.l0 k x0 x1 x5)
theorem hushref1_Divisor.L0_is (x0 : Int) (x1 : Int) (x5 : Int) : LimIs (fun k => hushref1_Divisor.l0 k x0 x1 x5) (hushref1_Divisor.L0 x0 x1 x5) := ⟨fun k => (hushref1_Divisor.mono_l k).2.2.2 x0 x1 x5, rfl⟩
noncomputable def hushref2_Total.F (l0 : List (S32)) : Option (Int) := lim (fun k => hushref2_Total.f k l0)
theorem hushref2_Total.F_is (l0 : List (S32)) : LimIs (fun k => hushref2_Total.f k l0) (hushref2_Total.F l0) := ⟨fun k => hushref2_Total.mono l0 k, rfl⟩
noncomputable def hushref1_Divisor.F (a0 : Int) (a1 : Int) : Option (Int) := lim (fun k => hushref1_Divisor.f k a0 a1)
theorem hushref1_Divisor.F_is (a0 : Int) (a1 : Int) : LimIs (fun k => hushref1_Divisor.f k a0 a1) (hushref1_Divisor.F a0 a1) := ⟨fun k => hushref1_Divisor.mono a0 a1 k, rfl⟩
set_option maxRecDepth 100000 in
theorem hushref2_Total.L0_eq (x3 : Int) (x6 : List (S32)) (x7 : Int) (x8 : Int) : hushref2_Total.L0 x3 x6 x7 x8 = if x8 < x7 then (if 0 ≤ x8 then (if x8 < (x6.length : Int) then (hushref2_Total.L0 (wrap64 (x3 + ((rd_T32 x6 x8).f1))) x6 x7 (wrap64 (x8 + 1))) else (none)) else (none)) else (some x3) := by
  refine LimIs.step' (hushref2_Total.L0_is x3 x6 x7 x8).1 (b := fun k => if x8 < x7 then (if 0 ≤ x8 then (if x8 < (x6.length : Int) then (hushref2_Total.l0 k (wrap64 (x3 + ((rd_T32 x6 x8).f1))) x6 x7 (wrap64 (x8 + 1))) else (none)) else (none)) else (some x3)) (fun k => by first | rfl | rw [hushref2_Total.l0]) ?_
  repeat' first
    | (with_reducible exact hushref2_Total.L0_is _ _ _ _)
    | (with_reducible exact LimIs.const _)
    | (with_reducible refine LimIs.ite ?_ ?_)
    | (with_reducible refine LimIs.bind ?_ (fun _ => ?_))
    | exact hushref2_Total.L0_is _ _ _ _
    | exact LimIs.const _
    | refine LimIs.ite ?_ ?_
    | refine LimIs.bind ?_ (fun _ => ?_)
set_option maxRecDepth 100000 in
theorem hushref1_Divisor.J1_eq (x0 : Int) (x1 : Int) (x5 : Int) : hushref1_Divisor.J1 x0 x1 x5 = hushref1_Divisor.L1 x0 x1 x5 := by
  refine LimIs.step' (hushref1_Divisor.J1_is x0 x1 x5).1 (b := fun k => hushref1_Divisor.l1 k x0 x1 x5) (fun k => by first | rfl | rw [hushref1_Divisor.j1]) ?_
  repeat' first
    | (with_reducible exact hushref1_Divisor.L1_is _ _ _)
    | (with_reducible exact LimIs.const _)
    | (with_reducible refine LimIs.ite ?_ ?_)
    | (with_reducible refine LimIs.bind ?_ (fun _ => ?_))
    | exact hushref1_Divisor.L1_is _ _ _
    | exact LimIs.const _
    | refine LimIs.ite ?_ ?_
    | refine LimIs.bind ?_ (fun _ => ?_)
set_option maxRecDepth 100000 in
theorem hushref1_Divisor.L1_eq (x0 : Int) (x1 : Int) (x5 : Int) : hushref1_Divisor.L1 x0 x1 x5 = if x0 = x1 then (hushref1_Divisor.L2 x0 x5) else (if (Int.tmod x0 2) = 0 then (hushref1_Divisor.L1 (wrap64 (Int.tdiv x0 2)) x1 x5) else (if (Int.tmod x1 2) = 0 then (hushref1_Divisor.L1 x0 (wrap64 (Int.tdiv x1 2)) x5) else (if x0 > x1 then (hushref1_Divisor.L1 (wrap64 (x0 - x1)) x1 x5) else (hushref1_Divisor.L1 x0 (wrap64 (x1 - x0)) x5)))) := by
  refine LimIs.step' (hushref1_Divisor.L1_is x0 x1 x5).1 (b := fun k => if x0 = x1 then (hushref1_Divisor.l2 k x0 x5) else (if (Int.tmod x0 2) = 0 then (hushref1_Divisor.l1 k (wrap64 (Int.tdiv x0 2)) x1 x5) else (if (Int.tmod x1 2) = 0 then (hushref1_Divisor.l1 k x0 (wrap64 (Int.tdiv x1 2)) x5) else (if x0 > x1 then (hushref1_Divisor.l1 k (wrap64 (x0 - x1)) x1 x5) else (hushref1_Divisor.l1 k x0 (wrap64 (x1 - x0)) x5))))) (fun k => by first | rfl | rw [hushref1_Divisor.l1]) ?_
  repeat' first
    | (with_reducible exact hushref1_Divisor.L2_is _ _)
    | (with_reducible exact hushref1_Divisor.L1_is _ _ _)
    | (with_reducible exact LimIs.const _)
    | (with_reducible refine LimIs.ite ?_ ?_)
    | (with_reducible refine LimIs.bind ?_ (fun _ => ?_))
    | exact hushref1_Divisor.L2_is _ _
    | exact hushref1_Divisor.L1_is _ _ _
    | exact LimIs.const _
    | refine LimIs.ite ?_ ?_
    | refine LimIs.bind ?_ (fun _ => ?_)
set_option maxRecDepth 100000 in
theorem hushref1_Divisor.L2_eq (x0 : Int) (x5 : Int) : hushref1_Divisor.L2 x0 x5 = if x5 > 0 then (hushref1_Divisor.L2 (wrap64 (2 * x0)) (wrap64 (x5 - 1))) else (some x0) := by
  refine LimIs.step' (hushref1_Divisor.L2_is x0 x5).1 (b := fun k => if x5 > 0 then (hushref1_Divisor.l2 k (wrap64 (2 * x0)) (wrap64 (x5 - 1))) else (some x0)) (fun k => by first | rfl | rw [hushref1_Divisor.l2]) ?_
  repeat' first
    | (with_reducible exact hushref1_Divisor.L2_is _ _)
    | (with_reducible exact LimIs.const _)
    | (with_reducible refine LimIs.ite ?_ ?_)
    | (with_reducible refine LimIs.bind ?_ (fun _ => ?_))
    | exact hushref1_Divisor.L2_is _ _
    | exact LimIs.const _
    | refine LimIs.ite ?_ ?_
    | refine LimIs.bind ?_ (fun _ => ?_)
set_option maxRecDepth 100000 in
theorem hushref1_Divisor.L0_eq (x0 : Int) (x1 : Int) (x5 : Int) : hushref1_Divisor.L0 x0 x1 x5 = if (Int.tmod x0 2) = 0 then (if (Int.tmod x1 2) = 0 then (hushref1_Divisor.L0 (wrap64 (Int.tdiv x0 2)) (wrap64 (Int.tdiv x1 2)) (wrap64 (x5 + 1))) else (hushref1_Divisor.J1 x0 x1 x5)) else (hushref1_Divisor.J1 x0 x1 x5) := by
  refine LimIs.step' (hushref1_Divisor.L0_is x0 x1 x5).1 (b := fun k => if (Int.tmod x0 2) = 0 then (if (Int.tmod x1 2) = 0 then (hushref1_Divisor.l0 k (wrap64 (Int.tdiv x0 2)) (wrap64 (Int.tdiv x1 2)) (wrap64 (x5 + 1))) else (hushref1_Divisor.j1 k x0 x1 x5)) else (hushref1_Divisor.j1 k x0 x1 x5)) (fun k => by first | rfl | rw [hushref1_Divisor.l0]) ?_
  repeat' first
    | (with_reducible exact hushref1_Divisor.L0_is _ _ _)
    | (with_reducible exact hushref1_Divisor.J1_is _ _ _)
    | (with_reducible exact LimIs.const _)
    | (with_reducible refine LimIs.ite ?_ ?_)
    | (with_reducible refine LimIs.bind ?_ (fun _ => ?_))
    | exact hushref1_Divisor.L0_is _ _ _
    | exact hushref1_Divisor.J1_is _ _ _
    | exact LimIs.const _
    | refine LimIs.ite ?_ ?_
    | refine LimIs.bind ?_ (fun _ => ?_)
set_option maxRecDepth 100000 in
theorem hushref2_Total.F_eq (l0 : List (S32)) : hushref2_Total.F l0 = hushref2_Total.L0 0 l0 (l0.length : Int) 0 := by
  refine LimIs.out (?_ : LimIs (fun k => hushref2_Total.l0 k 0 l0 (l0.length : Int) 0) _)
  repeat' first
    | (with_reducible exact hushref2_Total.L0_is _ _ _ _)
    | (with_reducible exact LimIs.const _)
    | (with_reducible refine LimIs.ite ?_ ?_)
    | (with_reducible refine LimIs.bind ?_ (fun _ => ?_))
    | exact hushref2_Total.L0_is _ _ _ _
    | exact LimIs.const _
    | refine LimIs.ite ?_ ?_
    | refine LimIs.bind ?_ (fun _ => ?_)
set_option maxRecDepth 100000 in
theorem hushref1_Divisor.F_eq (a0 : Int) (a1 : Int) : hushref1_Divisor.F a0 a1 = if a0 = 0 then (some a1) else (hushref1_Divisor.L0 a0 a1 0) := by
  refine LimIs.out (?_ : LimIs (fun k => if a0 = 0 then (some a1) else (hushref1_Divisor.l0 k a0 a1 0)) _)
  repeat' first
    | (with_reducible exact hushref1_Divisor.L0_is _ _ _)
    | (with_reducible exact LimIs.const _)
    | (with_reducible refine LimIs.ite ?_ ?_)
    | (with_reducible refine LimIs.bind ?_ (fun _ => ?_))
    | exact hushref1_Divisor.L0_is _ _ _
    | exact LimIs.const _
    | refine LimIs.ite ?_ ?_
    | refine LimIs.bind ?_ (fun _ => ?_)
end Go.Proofs.Ytkemhfhmlcljjaa.PD
end
section
namespace Go.Proofs.Ytkemhfhmlcljjaa.DistPure
set_option linter.unusedVariables false
set_option linter.unusedSimpArgs false
open Go.RowKit Go.Proofs.Ytkemhfhmlcljjaa.PD Go.Proofs.YtkemhfhmlcljjaaW.PrintWords Go.Proofs.YtkemhfhmlcljjaaW.PrintLast Go.Proofs.YtkemhfhmlcljjaaW.PrintMore Go.Proofs.YtkemhfhmlcljjaaW.EvKit
theorem rdAt {xs : List Int} {i : Nat} (h : i < xs.length) : rd xs (i : Int) = xs[i] := by
  rw [rd_nat, List.getD_eq_getElem?_getD, List.getElem?_eq_getElem h]; rfl
theorem rd32At {xs : List S32} {i : Nat} (h : i < xs.length) : rd_T32 xs (i : Int) = xs[i] := by
  unfold rd_T32
  rw [Int.toNat_natCast, List.getD_eq_getElem?_getD, List.getElem?_eq_getElem h]; rfl
theorem w1 {i : Nat} (h : i < 4611686018427387904) : wrap64 ((i : Int) + 1) = ((i + 1 : Nat) : Int) := by rw [wrap64_of (by omega) (by omega)]; rfl
theorem eqF (x y : List Int) (hx : x.length ≤ 1048576) : slices_Equal_int_int.F x y = some (decide (x = y)) :=
  ((slices_Equal_int_int.F_is x y).iff _).2 (eq_is x y (by omega))
theorem rcmp_loop (x y : List Int) (hx : x.length ≤ 1048576) (hy : y.length ≤ 1048576) : ∀ (n i : Nat), i + n = x.length → i ≤ y.length →
    hushref2_Compare.L0 x y (x.length : Int) (i : Int) = some (cmpL (x.drop i) (y.drop i)) := by
  intro n
  induction n with
  | zero =>
    intro i hi h
    rw [hushref2_Compare.L0_eq, if_neg (by omega), List.drop_of_length_le (show x.length ≤ i by omega)]
    rcases Nat.lt_or_ge i y.length with h2 | h2
    · rw [if_pos (by omega), List.drop_eq_getElem_cons h2]
      rfl
    · rw [if_neg (by omega), List.drop_of_length_le h2]
      rfl
  | succ n ih =>
    intro i hi h
    have hxi : i < x.length := by omega
    rw [hushref2_Compare.L0_eq, if_pos (by omega), List.drop_eq_getElem_cons hxi]
    rcases Nat.lt_or_ge i y.length with h2 | h2
    · rw [if_neg (by omega), if_pos (by omega), if_pos (by omega), if_pos (by omega), List.drop_eq_getElem_cons h2, rdAt hxi, rdAt h2, cmpL]
      by_cases c : x[i] = y[i]
      · rw [if_pos c, if_neg (by omega), if_neg (by omega), w1 (by omega)]
        exact ih (i + 1) (by omega) (by omega)
      · rw [if_neg c]
        by_cases c1 : x[i] < y[i]
        · rw [if_pos c1, if_pos c1]
        · rw [if_neg c1, if_neg c1, if_pos (by omega)]
    · rw [if_pos (by omega), List.drop_of_length_le h2]
      rfl
theorem rcmpF (x y : List Int) (hx : x.length ≤ 1048576) (hy : y.length ≤ 1048576) : hushref2_Compare.F x y = some (cmpL x y) := by
  rw [hushref2_Compare.F_eq]
  exact rcmp_loop x y hx hy x.length 0 (by omega) (by omega)
theorem cmpL0 {a b : List Int} : cmpL a b = 0 ↔ a = b := ⟨cmpL_eq a b, fun h => by rw [h, cmpL_self]⟩
def okN (n : Int) : Bool := decide (-1073741824 ≤ n) && decide (n ≤ 1073741824)
def smallB (o : List Int) : Bool := decide (o.length ≤ 16) && o.all okN
theorem small1 (n : Int) : dist_small_1.f n = some (!okN n) := by
  unfold dist_small_1.f okN
  by_cases h : n < -1073741824
  · rw [if_pos h]; congr 1; symm; simp; omega
  · rw [if_neg h]; congr 1; rw [Bool.eq_iff_iff]; simp; omega
theorem index_loop (x : List Int) (hx : x.length ≤ 1048576) : ∀ (n i : Nat), i + n = x.length →
    ∃ r, slices_IndexFunc_int_int.L0 x (x.length : Int) (i : Int) = some r ∧ decide (r ≥ 0) = !((x.drop i).all okN) := by
  intro n
  induction n with
  | zero =>
    intro i hi
    refine ⟨-1, ?_, ?_⟩
    · rw [slices_IndexFunc_int_int.L0_eq, if_neg (by omega)]
    · rw [List.drop_of_length_le (show x.length ≤ i by omega)]; rfl
  | succ n ih =>
    intro i hi
    have hxi : i < x.length := by omega
    rw [slices_IndexFunc_int_int.L0_eq, if_pos (by omega), if_pos (by omega), if_pos (by omega), rdAt hxi, small1, Option.bind_some, List.drop_eq_getElem_cons hxi, List.all_cons]
    cases h : okN x[i] with
    | false => exact ⟨i, if_pos rfl, by simp⟩
    | true =>
      obtain ⟨r, h1, h2⟩ := ih (i + 1) (by omega)
      refine ⟨r, ?_, by rw [h2]; rfl⟩
      rw [if_neg (by decide), w1 (by omega)]
      exact h1
theorem smallF (o : List Int) (h : o.length ≤ 1048576) : dist_small.F o = some (smallB o) := by
  rw [dist_small.F_eq]
  unfold smallB
  by_cases c : o.length ≤ 16
  · obtain ⟨r, h1, h2⟩ := index_loop o h o.length 0 (by omega)
    rw [if_pos (by omega), slices_ContainsFunc_int_int.F_eq, slices_IndexFunc_int_int.F_eq]
    rw [show (0 : Int) = ((0 : Nat) : Int) from rfl, h1]
    rw [Option.bind_some, Option.bind_some]
    have h2 : decide (r ≥ ((0 : Nat) : Int)) = !((o.drop 0).all okN) := h2
    rw [h2, List.drop_zero, decide_eq_true c]
    simp
  · rw [if_neg (by omega), decide_eq_false c]; rfl
theorem rsmall_loop (x : List Int) (hx : x.length ≤ 1048576) : ∀ (n i : Nat), i + n = x.length →
    hushref2_Small.L0 x (x.length : Int) (i : Int) = some ((x.drop i).all okN) := by
  intro n
  induction n with
  | zero =>
    intro i hi
    rw [hushref2_Small.L0_eq, if_neg (by omega), List.drop_of_length_le (show x.length ≤ i by omega)]
    rfl
  | succ n ih =>
    intro i hi
    have hxi : i < x.length := by omega
    rw [hushref2_Small.L0_eq, if_pos (by omega), if_pos (by omega), if_pos (by omega), rdAt hxi, List.drop_eq_getElem_cons hxi, List.all_cons]
    by_cases c1 : x[i] > 1073741824
    · rw [if_pos c1, show okN x[i] = false by unfold okN; simp; omega]; rfl
    · rw [if_neg c1]
      by_cases c2 : x[i] < -1073741824
      · rw [if_pos c2, show okN x[i] = false by unfold okN; simp; omega]; rfl
      · rw [if_neg c2, show okN x[i] = true by unfold okN; simp; omega, Bool.true_and, w1 (by omega)]
        exact ih (i + 1) (by omega)
theorem rsmallF (o : List Int) (h : o.length ≤ 1048576) : hushref2_Small.F o = some (smallB o) := by
  rw [hushref2_Small.F_eq]
  unfold smallB
  by_cases c : o.length ≤ 16
  · rw [if_neg (by omega), decide_eq_true c, Bool.true_and]
    exact rsmall_loop o h o.length 0 (by omega)
  · rw [if_pos (by omega), decide_eq_false c]; rfl
theorem totOf_cons (p : S32) (l : List S32) : totOf (p :: l) = p.f1 + totOf l := rfl
theorem totOf_nil : totOf [] = 0 := rfl
theorem tot_ge : ∀ {l : List S32}, (∀ p ∈ l, 0 ≤ p.f1) → 0 ≤ totOf l
  | [], _ => Int.le_refl _
  | p :: l, h => by
    have := tot_ge (l := l) (fun q hq => h q (by simp [hq]))
    have := h p (by simp)
    rw [totOf_cons]; omega
theorem wOf_le : ∀ {l : List S32}, (∀ p ∈ l, 0 ≤ p.f1) → ∀ o, 0 ≤ wOf l o ∧ wOf l o ≤ totOf l
  | [], _, _ => ⟨Int.le_refl _, Int.le_refl _⟩
  | p :: l, h, o => by
    have := wOf_le (l := l) (fun q hq => h q (by simp [hq])) o
    have := h p (by simp)
    rw [totOf_cons, wOf_cons]
    split <;> omega
theorem tot_bd : ∀ {l : List S32}, (∀ p ∈ l, 0 ≤ p.f1 ∧ p.f1 ≤ 1073741824) → totOf l ≤ 1073741824 * (l.length : Int)
  | [], _ => Int.le_refl _
  | p :: l, h => by
    have := tot_bd (l := l) (fun q hq => h q (by simp [hq]))
    have := h p (by simp)
    rw [totOf_cons, List.length_cons]; omega
theorem totF (l : List S32) (hl : l.length ≤ 1048576) (h0 : ∀ p ∈ l, 0 ≤ p.f1) (ht : totOf l ≤ 4611686018427387904) : dist_total.F l = some (totOf l) :=
  ((dist_total.F_is l).iff _).2 (total_is l (by omega) h0 ht)
theorem mem_at {l : List S32} {i : Nat} (h : i < l.length) : l[i] ∈ l := List.getElem_mem h
theorem drop_in {l : List S32} {i : Nat} {P : S32 → Prop} (h : ∀ p ∈ l, P p) : ∀ p ∈ l.drop i, P p := fun p hp => h p (List.mem_of_mem_drop hp)
theorem rtot_loop (x : List S32) (hx : x.length ≤ 1048576) (h0 : ∀ p ∈ x, 0 ≤ p.f1) : ∀ (n i : Nat) (a : Int), i + n = x.length → 0 ≤ a → a + totOf (x.drop i) ≤ 4611686018427387904 →
    hushref2_Total.L0 a x (x.length : Int) (i : Int) = some (a + totOf (x.drop i)) := by
  intro n
  induction n with
  | zero =>
    intro i a hi _ _
    rw [hushref2_Total.L0_eq, if_neg (by omega), List.drop_of_length_le (show x.length ≤ i by omega), totOf_nil, Int.add_zero]
  | succ n ih =>
    intro i a hi ha hb
    have hxi : i < x.length := by omega
    have hm := h0 _ (mem_at hxi)
    have hr := tot_ge (drop_in (i := i + 1) h0)
    rw [List.drop_eq_getElem_cons hxi, totOf_cons] at hb ⊢
    rw [hushref2_Total.L0_eq, if_pos (by omega), if_pos (by omega), if_pos (by omega), rd32At hxi, w1 (by omega), wrap64_of (by omega) (by omega), ih (i + 1) _ (by omega) (by omega) (by omega)]
    congr 1
    omega
theorem rtotF (l : List S32) (hl : l.length ≤ 1048576) (h0 : ∀ p ∈ l, 0 ≤ p.f1) (ht : totOf l ≤ 4611686018427387904) : hushref2_Total.F l = some (totOf l) := by
  rw [hushref2_Total.F_eq]
  have h := rtot_loop l hl h0 l.length 0 0 (by omega) (by omega) (by rw [List.drop_zero]; omega)
  rw [List.drop_zero, Int.zero_add] at h
  exact h
theorem weight_loop (o : List Int) (ho : o.length ≤ 1048576) (x : List S32) (hx : x.length ≤ 1048576) (h1 : ∀ p ∈ x, p.f0.length ≤ 1048576) (h0 : ∀ p ∈ x, 0 ≤ p.f1) : ∀ (n i : Nat) (a : Int), i + n = x.length → 0 ≤ a → a + totOf (x.drop i) ≤ 4611686018427387904 →
    hushref2_Weight.L0 o a x (x.length : Int) (i : Int) = some (a + wOf (x.drop i) o) := by
  intro n
  induction n with
  | zero =>
    intro i a hi _ _
    rw [hushref2_Weight.L0_eq, if_neg (by omega), List.drop_of_length_le (show x.length ≤ i by omega)]
    congr 1
    exact (Int.add_zero a).symm
  | succ n ih =>
    intro i a hi ha hb
    have hxi : i < x.length := by omega
    have hm := h0 _ (mem_at hxi)
    have hr := tot_ge (drop_in (i := i + 1) h0)
    rw [List.drop_eq_getElem_cons hxi, totOf_cons] at hb
    rw [List.drop_eq_getElem_cons hxi, wOf_cons, hushref2_Weight.L0_eq, if_pos (by omega), if_pos (by omega), if_pos (by omega), rd32At hxi, rcmpF _ _ (h1 _ (mem_at hxi)) ho, Option.bind_some]
    by_cases c : x[i].f0 = o
    · rw [if_pos (cmpL0.2 c), if_pos c, w1 (by omega), wrap64_of (by omega) (by omega), ih (i + 1) _ (by omega) (by omega) (by omega)]
      congr 1
      omega
    · rw [if_neg (fun h => c (cmpL0.1 h)), if_neg c, w1 (by omega), ih (i + 1) _ (by omega) (by omega) (by omega)]
      congr 1
      omega
theorem weightF (l : List S32) (o : List Int) (ho : o.length ≤ 1048576) (hl : l.length ≤ 1048576) (h1 : ∀ p ∈ l, p.f0.length ≤ 1048576) (h0 : ∀ p ∈ l, 0 ≤ p.f1) (ht : totOf l ≤ 4611686018427387904) : hushref2_Weight.F l o = some (wOf l o) := by
  rw [hushref2_Weight.F_eq]
  have h := weight_loop o ho l hl h1 h0 l.length 0 0 (by omega) (by omega) (by rw [List.drop_zero]; omega)
  rw [List.drop_zero, Int.zero_add] at h
  exact h
end Go.Proofs.Ytkemhfhmlcljjaa.DistPure
end
section
namespace Go.Proofs.Ytkemhfhmlcljjaa.DistPure
set_option linter.unusedVariables false
set_option linter.unusedSimpArgs false
open Go.RowKit Go.Proofs.Ytkemhfhmlcljjaa.PD Go.Proofs.YtkemhfhmlcljjaaW.PrintWords Go.Proofs.YtkemhfhmlcljjaaW.PrintLast Go.Proofs.YtkemhfhmlcljjaaW.PrintMore Go.Proofs.YtkemhfhmlcljjaaW.EvKit
theorem gcd_pos {u d : Int} (h : 1 ≤ d) : 0 < Int.gcd u d := by
  rcases Nat.eq_zero_or_pos (Int.gcd u d) with h0 | h0
  · have := (Int.gcd_eq_zero_iff.1 h0).2
    omega
  · exact h0
theorem quot {u : Int} {g : Nat} (hu : 0 ≤ u) (hu2 : u ≤ 9223372036854775807) : wrap64 (Int.tdiv u (g : Int)) = u / (g : Int) := by
  rw [Int.tdiv_eq_ediv_of_nonneg hu]
  have h0 : 0 ≤ u / (g : Int) := Int.ediv_nonneg hu (by omega)
  have h1 : u / (g : Int) ≤ u := Int.ediv_le_self _ hu
  exact wrap64_of (by omega) (by omega)
theorem tm2 (x : Nat) : Int.tmod (x : Int) 2 = ((x % 2 : Nat) : Int) := by rw [Int.tmod_eq_emod_of_nonneg (by omega)]; rfl
theorem td2 (x : Nat) (h : x ≤ 9223372036854775807) : wrap64 (Int.tdiv (x : Int) 2) = ((x / 2 : Nat) : Int) := by
  rw [Int.tdiv_eq_ediv_of_nonneg (by omega), wrap64_of (by omega) (by omega)]; rfl
theorem div_l2 : ∀ (t a : Nat), t ≤ 4611686018427387904 → a * 2 ^ t ≤ 9223372036854775807 → Ev (fun k => hushref1_Divisor.l2 k (a : Int) (t : Int)) ((a * 2 ^ t : Nat) : Int) := by
  intro t
  induction t with
  | zero =>
    intro a _ _
    refine Ev.step (fun k => hushref1_Divisor.l2.eq_2 _ _ k) (Ev.neg (by omega) ?_)
    simpa using Ev.ret _
  | succ t ih =>
    intro a ht h
    have h1 : a ≤ a * 2 ^ t := Nat.le_mul_of_pos_right _ (Nat.two_pow_pos t)
    rw [Nat.pow_succ] at h
    have h2 : a * (2 ^ t * 2) = 2 * a * 2 ^ t := by rw [Nat.mul_comm (2 ^ t) 2, ← Nat.mul_assoc, Nat.mul_comm a 2]
    rw [h2] at h
    have h3 : 2 * a ≤ 2 * a * 2 ^ t := Nat.le_mul_of_pos_right _ (Nat.two_pow_pos t)
    have h4 := ih (2 * a) (by omega) h
    refine Ev.step (fun k => hushref1_Divisor.l2.eq_2 _ _ k) (Ev.pos (by omega) ?_)
    have e1 : wrap64 (2 * (a : Int)) = ((2 * a : Nat) : Int) := by rw [wrap64_of (by omega) (by omega)]; omega
    have e2 : wrap64 (((t + 1 : Nat) : Int) - 1) = ((t : Nat) : Int) := by rw [wrap64_of (by omega) (by omega)]; omega
    simp only [e1, e2]
    rw [Nat.pow_succ, h2]
    exact h4
theorem gcd_half {x y : Nat} (hx : x % 2 = 0) (hy : y % 2 = 1) : Nat.gcd (x / 2) y = Nat.gcd x y := by
  have h : x = 2 * (x / 2) := by omega
  have hc : Nat.Coprime 2 y := by
    unfold Nat.Coprime
    rw [Nat.gcd_rec, hy]
    decide
  rw [h]
  simp only [Nat.mul_div_cancel_left _ (show 0 < 2 by decide)]
  exact (Nat.Coprime.gcd_mul_left_cancel (x / 2) hc).symm
theorem div_l1 : ∀ (n x y t : Nat) {r : Int}, x + y ≤ n → 0 < x → 0 < y → (x % 2 = 1 ∨ y % 2 = 1) → x ≤ 9223372036854775807 → y ≤ 9223372036854775807 →
    Ev (fun k => hushref1_Divisor.l2 k ((Nat.gcd x y : Nat) : Int) (t : Int)) r → Ev (fun k => hushref1_Divisor.l1 k (x : Int) (y : Int) (t : Int)) r := by
  intro n
  induction n with
  | zero => intro x y t r h hx; omega
  | succ n ih =>
    intro x y t r h hx hy ho bx bY hr
    by_cases he : x = y
    · subst he
      rw [Nat.gcd_self] at hr
      exact Ev.step (fun k => hushref1_Divisor.l1.eq_2 _ _ _ k) (Ev.pos rfl hr)
    · refine Ev.step (fun k => hushref1_Divisor.l1.eq_2 _ _ _ k) (Ev.neg (by omega) ?_)
      rw [tm2, tm2, td2 x bx, td2 y bY]
      by_cases h0 : x % 2 = 0
      · refine Ev.pos (by omega) (ih (x / 2) y t (by omega) (by omega) hy (by omega) (by omega) bY ?_)
        rw [gcd_half h0 (by omega)]
        exact hr
      · refine Ev.neg (by omega) ?_
        by_cases h1 : y % 2 = 0
        · refine Ev.pos (by omega) (ih x (y / 2) t (by omega) hx (by omega) (by omega) bx (by omega) ?_)
          rw [Nat.gcd_comm, gcd_half h1 (by omega), Nat.gcd_comm]
          exact hr
        · refine Ev.neg (by omega) ?_
          by_cases h2 : x > y
          · refine Ev.pos (by omega) ?_
            have e : wrap64 ((x : Int) - (y : Int)) = ((x - y : Nat) : Int) := by rw [wrap64_of (by omega) (by omega)]; omega
            rw [e]
            refine ih (x - y) y t (by omega) (by omega) hy (by omega) (by omega) bY ?_
            rw [Nat.gcd_sub_self_left (by omega)]
            exact hr
          · refine Ev.neg (by omega) ?_
            have e : wrap64 ((y : Int) - (x : Int)) = ((y - x : Nat) : Int) := by rw [wrap64_of (by omega) (by omega)]; omega
            rw [e]
            refine ih x (y - x) t (by omega) hx (by omega) (by omega) bx (by omega) ?_
            rw [Nat.gcd_sub_self_right (by omega)]
            exact hr
theorem div_l0 : ∀ (n x y t : Nat) {r : Int}, x ≤ n → 0 < x → 0 < y → x ≤ 9223372036854775807 → y ≤ 9223372036854775807 → t + n ≤ 9223372036854775807 →
    Ev (fun k => hushref1_Divisor.l2 k ((Nat.gcd x y : Nat) : Int) (t : Int)) r → Ev (fun k => hushref1_Divisor.l0 k (x : Int) (y : Int) (t : Int)) r := by
  intro n
  induction n with
  | zero => intro x y t r h hx; omega
  | succ n ih =>
    intro x y t r h hx hy bx bY ht hr
    have hj : (x % 2 = 1 ∨ y % 2 = 1) → Ev (fun k => hushref1_Divisor.j1 k (x : Int) (y : Int) (t : Int)) r := fun ho =>
      Ev.step (fun k => hushref1_Divisor.j1.eq_2 _ _ _ k) (div_l1 (x + y) x y t (Nat.le_refl _) hx hy ho bx bY hr)
    refine Ev.step (fun k => hushref1_Divisor.l0.eq_2 _ _ _ k) ?_
    rw [tm2, tm2, td2 x bx, td2 y bY]
    by_cases h0 : x % 2 = 0
    · by_cases h1 : y % 2 = 0
      · have e : wrap64 ((t : Int) + 1) = ((t + 1 : Nat) : Int) := by rw [wrap64_of (by omega) (by omega)]; omega
        refine Ev.pos (by omega) (Ev.pos (by omega) ?_)
        rw [e]
        refine ih (x / 2) (y / 2) (t + 1) (by omega) (by omega) (by omega) (by omega) (by omega) (by omega) ?_
        have hg : Nat.gcd x y = 2 * Nat.gcd (x / 2) (y / 2) := by
          rw [← Nat.gcd_mul_left]
          congr 1 <;> omega
        have hle : Nat.gcd x y ≤ x := Nat.gcd_le_left y hx
        refine Ev.step (fun k => hushref1_Divisor.l2.eq_2 _ _ k) (Ev.pos (by omega) ?_)
        have e1 : wrap64 (2 * ((Nat.gcd (x / 2) (y / 2) : Nat) : Int)) = ((Nat.gcd x y : Nat) : Int) := by rw [wrap64_of (by omega) (by omega)]; omega
        have e2 : wrap64 (((t + 1 : Nat) : Int) - 1) = ((t : Nat) : Int) := by rw [wrap64_of (by omega) (by omega)]; omega
        simp only [e1, e2]
        exact hr
      · exact Ev.pos (by omega) (Ev.neg (by omega) (hj (by omega)))
    · exact Ev.neg (by omega) (hj (by omega))
theorem div_ev {u d : Int} (hu : 0 ≤ u) (hd : 1 ≤ d) (bu : u ≤ 9223372036854775807) (bd : d ≤ 9223372036854775807) : Ev (fun k => hushref1_Divisor.f k u d) ((Int.gcd u d : Nat) : Int) := by
  obtain ⟨x, rfl⟩ := Int.eq_ofNat_of_zero_le hu
  obtain ⟨y, rfl⟩ := Int.eq_ofNat_of_zero_le (show 0 ≤ d by omega)
  by_cases h0 : x = 0
  · subst h0
    refine Ev.pos rfl (Ev.eq (Ev.ret _) ?_)
    simp
  · refine Ev.neg (by omega) ?_
    show Ev (fun k => hushref1_Divisor.l0 k (x : Int) (y : Int) 0) ((Nat.gcd x y : Nat) : Int)
    refine div_l0 x x y 0 (Nat.le_refl _) (by omega) (by omega) (by omega) (by omega) (by omega) ?_
    refine Ev.eq (div_l2 0 (Nat.gcd x y) (by omega) ?_) (by simp)
    have := Nat.gcd_le_left y (show 0 < x by omega)
    simp
    omega
theorem divF {u d : Int} (hu : 0 ≤ u) (hd : 1 ≤ d) (bu : u ≤ 9223372036854775807) (bd : d ≤ 9223372036854775807) : hushref1_Divisor.F u d = some ((Int.gcd u d : Nat) : Int) := (hushref1_Divisor.F_is u d).of_ev (div_ev hu hd bu bd)
end Go.Proofs.Ytkemhfhmlcljjaa.DistPure
end
section
namespace Go.Proofs.Ytkemhfhmlcljjaa.PD
open Go.RowKit Go.Proofs.YtkemhfhmlcljjaaW.PrintWords Go.Proofs.YtkemhfhmlcljjaaW.PrintLast Go.Proofs.YtkemhfhmlcljjaaW.PrintMore
open Go.Proofs.YtkemhfhmlcljjaaW.EvKit
set_option linter.unusedVariables false
noncomputable def hushref2_least.L0 (x1 : List Int) (x2 : Bool) (x8 : List Int) (x9 : Bool) (x12 : List (S32)) (x13 : Int) (x14 : Int) : Option (List Int × Bool) := lim (fun k => hushref2_least.l0 k x1 x2 x8 x9 x12 x13 x14)
theorem hushref2_least.L0_is (x1 : List Int) (x2 : Bool) (x8 : List Int) (x9 : Bool) (x12 : List (S32)) (x13 : Int) (x14 : Int) : LimIs (fun k => hushref2_least.l0 k x1 x2 x8 x9 x12 x13 x14) (hushref2_least.L0 x1 x2 x8 x9 x12 x13 x14) := ⟨fun k => (hushref2_least.mono_l k) x1 x2 x8 x9 x12 x13 x14, rfl⟩
noncomputable def hushref2_least.F (l0 : List (S32)) (l1 : List Int) (a2 : Bool) : Option (List Int × Bool) := lim (fun k => hushref2_least.f k l0 l1 a2)
theorem hushref2_least.F_is (l0 : List (S32)) (l1 : List Int) (a2 : Bool) : LimIs (fun k => hushref2_least.f k l0 l1 a2) (hushref2_least.F l0 l1 a2) := ⟨fun k => hushref2_least.mono l0 l1 a2 k, rfl⟩
set_option maxRecDepth 100000 in
theorem hushref2_least.L0_eq (x1 : List Int) (x2 : Bool) (x8 : List Int) (x9 : Bool) (x12 : List (S32)) (x13 : Int) (x14 : Int) : hushref2_least.L0 x1 x2 x8 x9 x12 x13 x14 = if x14 < x13 then (if 0 ≤ x14 then (if x14 < (x12.length : Int) then (if ((rd_T32 x12 x14).f1) > 0 then (if x2 = true then ((hushref2_Compare.F ((rd_T32 x12 x14).f0) x1).bind fun t155 => (if t155 > 0 then (if x9 = true then ((hushref2_Compare.F ((rd_T32 x12 x14).f0) x8).bind fun t156 => (if t156 < 0 then (hushref2_least.L0 x1 x2 ((rd_T32 x12 x14).f0) true x12 x13 (wrap64 (x14 + 1))) else (hushref2_least.L0 x1 x2 x8 x9 x12 x13 (wrap64 (x14 + 1))))) else (hushref2_least.L0 x1 x2 ((rd_T32 x12 x14).f0) true x12 x13 (wrap64 (x14 + 1)))) else (hushref2_least.L0 x1 x2 x8 x9 x12 x13 (wrap64 (x14 + 1))))) else (if x9 = true then ((hushref2_Compare.F ((rd_T32 x12 x14).f0) x8).bind fun t157 => (if t157 < 0 then (hushref2_least.L0 x1 x2 ((rd_T32 x12 x14).f0) true x12 x13 (wrap64 (x14 + 1))) else (hushref2_least.L0 x1 x2 x8 x9 x12 x13 (wrap64 (x14 + 1))))) else (hushref2_least.L0 x1 x2 ((rd_T32 x12 x14).f0) true x12 x13 (wrap64 (x14 + 1))))) else (hushref2_least.L0 x1 x2 x8 x9 x12 x13 (wrap64 (x14 + 1)))) else (none)) else (none)) else (some (x8, x9)) := by
  refine LimIs.step' (hushref2_least.L0_is x1 x2 x8 x9 x12 x13 x14).1 (b := fun k => if x14 < x13 then (if 0 ≤ x14 then (if x14 < (x12.length : Int) then (if ((rd_T32 x12 x14).f1) > 0 then (if x2 = true then ((hushref2_Compare.f k ((rd_T32 x12 x14).f0) x1).bind fun t155 => (if t155 > 0 then (if x9 = true then ((hushref2_Compare.f k ((rd_T32 x12 x14).f0) x8).bind fun t156 => (if t156 < 0 then (hushref2_least.l0 k x1 x2 ((rd_T32 x12 x14).f0) true x12 x13 (wrap64 (x14 + 1))) else (hushref2_least.l0 k x1 x2 x8 x9 x12 x13 (wrap64 (x14 + 1))))) else (hushref2_least.l0 k x1 x2 ((rd_T32 x12 x14).f0) true x12 x13 (wrap64 (x14 + 1)))) else (hushref2_least.l0 k x1 x2 x8 x9 x12 x13 (wrap64 (x14 + 1))))) else (if x9 = true then ((hushref2_Compare.f k ((rd_T32 x12 x14).f0) x8).bind fun t157 => (if t157 < 0 then (hushref2_least.l0 k x1 x2 ((rd_T32 x12 x14).f0) true x12 x13 (wrap64 (x14 + 1))) else (hushref2_least.l0 k x1 x2 x8 x9 x12 x13 (wrap64 (x14 + 1))))) else (hushref2_least.l0 k x1 x2 ((rd_T32 x12 x14).f0) true x12 x13 (wrap64 (x14 + 1))))) else (hushref2_least.l0 k x1 x2 x8 x9 x12 x13 (wrap64 (x14 + 1)))) else (none)) else (none)) else (some (x8, x9))) (fun k => by first | rfl | rw [hushref2_least.l0]) ?_
  repeat' first
    | (with_reducible exact hushref2_Compare.F_is _ _)
    | (with_reducible exact hushref2_least.L0_is _ _ _ _ _ _ _)
    | (with_reducible exact LimIs.const _)
    | (with_reducible refine LimIs.ite ?_ ?_)
    | (with_reducible refine LimIs.bind ?_ (fun _ => ?_))
    | exact hushref2_Compare.F_is _ _
    | exact hushref2_least.L0_is _ _ _ _ _ _ _
    | exact LimIs.const _
    | refine LimIs.ite ?_ ?_
    | refine LimIs.bind ?_ (fun _ => ?_)
set_option maxRecDepth 100000 in
theorem hushref2_least.F_eq (l0 : List (S32)) (l1 : List Int) (a2 : Bool) : hushref2_least.F l0 l1 a2 = hushref2_least.L0 l1 a2 ([] : List Int) false l0 (l0.length : Int) 0 := by
  refine LimIs.out (?_ : LimIs (fun k => hushref2_least.l0 k l1 a2 ([] : List Int) false l0 (l0.length : Int) 0) _)
  repeat' first
    | (with_reducible exact hushref2_least.L0_is _ _ _ _ _ _ _)
    | (with_reducible exact LimIs.const _)
    | (with_reducible refine LimIs.ite ?_ ?_)
    | (with_reducible refine LimIs.bind ?_ (fun _ => ?_))
    | exact hushref2_least.L0_is _ _ _ _ _ _ _
    | exact LimIs.const _
    | refine LimIs.ite ?_ ?_
    | refine LimIs.bind ?_ (fun _ => ?_)
end Go.Proofs.Ytkemhfhmlcljjaa.PD
end
section
namespace Go.Proofs.Ytkemhfhmlcljjaa.PD
open Go.RowKit Go.Proofs.YtkemhfhmlcljjaaW.PrintWords Go.Proofs.YtkemhfhmlcljjaaW.PrintLast Go.Proofs.YtkemhfhmlcljjaaW.PrintMore
open Go.Proofs.YtkemhfhmlcljjaaW.EvKit
set_option linter.unusedVariables false
noncomputable def hushref2_Tidy.L0 (x0 : List (S32)) (x4 : List (S32)) (x5 : List Int) (x6 : Bool) : Option ((List (S32)) × Int) := lim (fun k => hushref2_Tidy.l0 k x0 x4 x5 x6)
theorem hushref2_Tidy.L0_is (x0 : List (S32)) (x4 : List (S32)) (x5 : List Int) (x6 : Bool) : LimIs (fun k => hushref2_Tidy.l0 k x0 x4 x5 x6) (hushref2_Tidy.L0 x0 x4 x5 x6) := ⟨fun k => (hushref2_Tidy.mono_l k).1 x0 x4 x5 x6, rfl⟩
noncomputable def hushref2_Tidy.L1 (x4 : List (S32)) (x7 : Int) (x38 : List (S32)) (x39 : Int) (x40 : Int) : Option ((List (S32)) × Int) := lim (fun k => hushref2_Tidy.l1 k x4 x7 x38 x39 x40)
theorem hushref2_Tidy.L1_is (x4 : List (S32)) (x7 : Int) (x38 : List (S32)) (x39 : Int) (x40 : Int) : LimIs (fun k => hushref2_Tidy.l1 k x4 x7 x38 x39 x40) (hushref2_Tidy.L1 x4 x7 x38 x39 x40) := ⟨fun k => (hushref2_Tidy.mono_l k).2.1 x4 x7 x38 x39 x40, rfl⟩
noncomputable def hushref2_Tidy.J2 (x4 : List (S32)) (x7 : Int) (x58 : Bool) : Option ((List (S32)) × Int) := lim (fun k => hushref2_Tidy.j2 k x4 x7 x58)
theorem hushref2_Tidy.J2_is (x4 : List (S32)) (x7 : Int) (x58 : Bool) : LimIs (fun k => hushref2_Tidy.j2 k x4 x7 x58) (hushref2_Tidy.J2 x4 x7 x58) := ⟨fun k => (hushref2_Tidy.mono_l k).2.2.1 x4 x7 x58, rfl⟩
noncomputable def hushref2_Tidy.L2 (x4 : List (S32)) (x7 : Int) (x60 : Int) (x61 : Int) : Option ((List (S32)) × Int) := lim (fun k => hushref2_Tidy.l2 k x4 x7 x60 x61)
theorem hushref2_Tidy.L2_is (x4 : List (S32)) (x7 : Int) (x60 : Int) (x61 : Int) : LimIs (fun k => hushref2_Tidy.l2 k x4 x7 x60 x61) (hushref2_Tidy.L2 x4 x7 x60 x61) := ⟨fun k => (hushref2_Tidy.mono_l k).2.2.2 x4 x7 x60 x61, rfl⟩
noncomputable def hushref2_Tidy.F (l0 : List (S32)) : Option ((List (S32)) × Int) := lim (fun k => hushref2_Tidy.f k l0)
theorem hushref2_Tidy.F_is (l0 : List (S32)) : LimIs (fun k => hushref2_Tidy.f k l0) (hushref2_Tidy.F l0) := ⟨fun k => hushref2_Tidy.mono l0 k, rfl⟩
set_option maxRecDepth 100000 in
theorem hushref2_Tidy.L0_eq (x0 : List (S32)) (x4 : List (S32)) (x5 : List Int) (x6 : Bool) : hushref2_Tidy.L0 x0 x4 x5 x6 = if x6 = true then ((hushref2_Weight.F x0 x5).bind fun t162 => (if x4.length < 4398046511104 then ((hushref2_least.F x0 x5 true).bind fun bt166 => (hushref2_Tidy.L0 x0 (x4 ++ [(⟨x5, t162⟩ : S32)]) bt166.1 bt166.2)) else (none))) else (if (x4.length : Int) = 0 then (some (([] : List (S32)), 6)) else (if 0 < (x4.length : Int) then (hushref2_Tidy.L1 x4 ((rd_T32 x4 0).f1) x4 (x4.length : Int) 0) else (none))) := by
  refine LimIs.step' (hushref2_Tidy.L0_is x0 x4 x5 x6).1 (b := fun k => if x6 = true then ((hushref2_Weight.f k x0 x5).bind fun t162 => (if x4.length < 4398046511104 then ((hushref2_least.f k x0 x5 true).bind fun bt166 => (hushref2_Tidy.l0 k x0 (x4 ++ [(⟨x5, t162⟩ : S32)]) bt166.1 bt166.2)) else (none))) else (if (x4.length : Int) = 0 then (some (([] : List (S32)), 6)) else (if 0 < (x4.length : Int) then (hushref2_Tidy.l1 k x4 ((rd_T32 x4 0).f1) x4 (x4.length : Int) 0) else (none)))) (fun k => by first | rfl | rw [hushref2_Tidy.l0]) ?_
  repeat' first
    | (with_reducible exact hushref2_Weight.F_is _ _)
    | (with_reducible exact hushref2_least.F_is _ _ _)
    | (with_reducible exact hushref2_Tidy.L0_is _ _ _ _)
    | (with_reducible exact hushref2_Tidy.L1_is _ _ _ _ _)
    | (with_reducible exact LimIs.const _)
    | (with_reducible refine LimIs.ite ?_ ?_)
    | (with_reducible refine LimIs.bind ?_ (fun _ => ?_))
    | exact hushref2_Weight.F_is _ _
    | exact hushref2_least.F_is _ _ _
    | exact hushref2_Tidy.L0_is _ _ _ _
    | exact hushref2_Tidy.L1_is _ _ _ _ _
    | exact LimIs.const _
    | refine LimIs.ite ?_ ?_
    | refine LimIs.bind ?_ (fun _ => ?_)
set_option maxRecDepth 100000 in
theorem hushref2_Tidy.L1_eq (x4 : List (S32)) (x7 : Int) (x38 : List (S32)) (x39 : Int) (x40 : Int) : hushref2_Tidy.L1 x4 x7 x38 x39 x40 = if x40 < x39 then (if 0 ≤ x40 then (if x40 < (x38.length : Int) then ((hushref1_Divisor.F ((rd_T32 x38 x40).f1) x7).bind fun t173 => (hushref2_Tidy.L1 x4 t173 x38 x39 (wrap64 (x40 + 1)))) else (none)) else (none)) else ((hushref2_Total.F x4).bind fun t174 => (if x7 = 0 then (none) else (if (wrap64 (Int.tdiv t174 x7)) > 1073741824 then (hushref2_Tidy.J2 x4 x7 true) else (hushref2_Tidy.J2 x4 x7 (decide ((x4.length : Int) > 4096)))))) := by
  refine LimIs.step' (hushref2_Tidy.L1_is x4 x7 x38 x39 x40).1 (b := fun k => if x40 < x39 then (if 0 ≤ x40 then (if x40 < (x38.length : Int) then ((hushref1_Divisor.f k ((rd_T32 x38 x40).f1) x7).bind fun t173 => (hushref2_Tidy.l1 k x4 t173 x38 x39 (wrap64 (x40 + 1)))) else (none)) else (none)) else ((hushref2_Total.f k x4).bind fun t174 => (if x7 = 0 then (none) else (if (wrap64 (Int.tdiv t174 x7)) > 1073741824 then (hushref2_Tidy.j2 k x4 x7 true) else (hushref2_Tidy.j2 k x4 x7 (decide ((x4.length : Int) > 4096))))))) (fun k => by first | rfl | rw [hushref2_Tidy.l1]) ?_
  repeat' first
    | (with_reducible exact hushref1_Divisor.F_is _ _)
    | (with_reducible exact hushref2_Tidy.L1_is _ _ _ _ _)
    | (with_reducible exact hushref2_Total.F_is _)
    | (with_reducible exact hushref2_Tidy.J2_is _ _ _)
    | (with_reducible exact LimIs.const _)
    | (with_reducible refine LimIs.ite ?_ ?_)
    | (with_reducible refine LimIs.bind ?_ (fun _ => ?_))
    | exact hushref1_Divisor.F_is _ _
    | exact hushref2_Tidy.L1_is _ _ _ _ _
    | exact hushref2_Total.F_is _
    | exact hushref2_Tidy.J2_is _ _ _
    | exact LimIs.const _
    | refine LimIs.ite ?_ ?_
    | refine LimIs.bind ?_ (fun _ => ?_)
set_option maxRecDepth 100000 in
theorem hushref2_Tidy.J2_eq (x4 : List (S32)) (x7 : Int) (x58 : Bool) : hushref2_Tidy.J2 x4 x7 x58 = if x58 = true then (some (([] : List (S32)), 4)) else (hushref2_Tidy.L2 x4 x7 (x4.length : Int) 0) := by
  refine LimIs.step' (hushref2_Tidy.J2_is x4 x7 x58).1 (b := fun k => if x58 = true then (some (([] : List (S32)), 4)) else (hushref2_Tidy.l2 k x4 x7 (x4.length : Int) 0)) (fun k => by first | rfl | rw [hushref2_Tidy.j2]) ?_
  repeat' first
    | (with_reducible exact hushref2_Tidy.L2_is _ _ _ _)
    | (with_reducible exact LimIs.const _)
    | (with_reducible refine LimIs.ite ?_ ?_)
    | (with_reducible refine LimIs.bind ?_ (fun _ => ?_))
    | exact hushref2_Tidy.L2_is _ _ _ _
    | exact LimIs.const _
    | refine LimIs.ite ?_ ?_
    | refine LimIs.bind ?_ (fun _ => ?_)
set_option maxRecDepth 100000 in
theorem hushref2_Tidy.L2_eq (x4 : List (S32)) (x7 : Int) (x60 : Int) (x61 : Int) : hushref2_Tidy.L2 x4 x7 x60 x61 = if x61 < x60 then (if 0 ≤ x61 then (if x61 < (x4.length : Int) then (if x7 = 0 then (none) else (hushref2_Tidy.L2 (x4.set (x61 : Int).toNat (⟨(rd_T32 x4 x61).f0, wrap64 (Int.tdiv ((rd_T32 x4 x61).f1) x7)⟩ : S32)) x7 x60 (wrap64 (x61 + 1)))) else (none)) else (none)) else (some (x4, 0)) := by
  refine LimIs.step' (hushref2_Tidy.L2_is x4 x7 x60 x61).1 (b := fun k => if x61 < x60 then (if 0 ≤ x61 then (if x61 < (x4.length : Int) then (if x7 = 0 then (none) else (hushref2_Tidy.l2 k (x4.set (x61 : Int).toNat (⟨(rd_T32 x4 x61).f0, wrap64 (Int.tdiv ((rd_T32 x4 x61).f1) x7)⟩ : S32)) x7 x60 (wrap64 (x61 + 1)))) else (none)) else (none)) else (some (x4, 0))) (fun k => by first | rfl | rw [hushref2_Tidy.l2]) ?_
  repeat' first
    | (with_reducible exact hushref2_Tidy.L2_is _ _ _ _)
    | (with_reducible exact LimIs.const _)
    | (with_reducible refine LimIs.ite ?_ ?_)
    | (with_reducible refine LimIs.bind ?_ (fun _ => ?_))
    | exact hushref2_Tidy.L2_is _ _ _ _
    | exact LimIs.const _
    | refine LimIs.ite ?_ ?_
    | refine LimIs.bind ?_ (fun _ => ?_)
set_option maxRecDepth 100000 in
theorem hushref2_Tidy.F_eq (l0 : List (S32)) : hushref2_Tidy.F l0 = (hushref2_least.F l0 ([] : List Int) false).bind fun bt158 => (hushref2_Tidy.L0 l0 ([] : List (S32)) bt158.1 bt158.2) := by
  refine LimIs.out (?_ : LimIs (fun k => (hushref2_least.f k l0 ([] : List Int) false).bind fun bt158 => (hushref2_Tidy.l0 k l0 ([] : List (S32)) bt158.1 bt158.2)) _)
  repeat' first
    | (with_reducible exact hushref2_least.F_is _ _ _)
    | (with_reducible exact hushref2_Tidy.L0_is _ _ _ _)
    | (with_reducible exact LimIs.const _)
    | (with_reducible refine LimIs.ite ?_ ?_)
    | (with_reducible refine LimIs.bind ?_ (fun _ => ?_))
    | exact hushref2_least.F_is _ _ _
    | exact hushref2_Tidy.L0_is _ _ _ _
    | exact LimIs.const _
    | refine LimIs.ite ?_ ?_
    | refine LimIs.bind ?_ (fun _ => ?_)
end Go.Proofs.Ytkemhfhmlcljjaa.PD
end
section
namespace Go.Proofs.Ytkemhfhmlcljjaa.DistPure
set_option linter.unusedVariables false
set_option linter.unusedSimpArgs false
open Go.RowKit Go.Proofs.Ytkemhfhmlcljjaa.PD Go.Proofs.YtkemhfhmlcljjaaW.PrintWords Go.Proofs.YtkemhfhmlcljjaaW.PrintLast Go.Proofs.YtkemhfhmlcljjaaW.PrintMore Go.Proofs.YtkemhfhmlcljjaaW.EvKit
def Outs (l : List S32) (x : List Int) : Prop := ∃ p ∈ l, p.f0 = x ∧ 0 < p.f1
theorem wOf_ge : ∀ {l : List S32}, (∀ p ∈ l, 0 ≤ p.f1) → ∀ {p : S32}, p ∈ l → p.f1 ≤ wOf l p.f0
  | [], _, p, h => by cases h
  | q :: l, h0, p, h => by
    have h1 := h0 q (by simp)
    have h2 : ∀ p ∈ l, 0 ≤ p.f1 := fun x hx => h0 x (by simp [hx])
    rw [wOf_cons]
    rcases List.mem_cons.1 h with e | e
    · subst e
      rw [if_pos rfl]
      have := (wOf_le h2 p.f0).1
      omega
    · have := wOf_ge h2 e
      split <;> omega
theorem wOf_some : ∀ {l : List S32}, (∀ p ∈ l, 0 ≤ p.f1) → ∀ {o : List Int}, 0 < wOf l o → Outs l o
  | [], _, _, h => absurd h (Int.lt_irrefl 0)
  | q :: l, h0, o, h => by
    have h1 := h0 q (by simp)
    rw [wOf_cons] at h
    by_cases c : q.f0 = o ∧ 0 < q.f1
    · exact ⟨q, by simp, c⟩
    · have h2 : 0 < wOf l o := by
        by_cases e : q.f0 = o
        · rw [if_pos e] at h
          have : ¬ 0 < q.f1 := fun x => c ⟨e, x⟩
          omega
        · rw [if_neg e] at h; omega
      obtain ⟨p, hp, e⟩ := wOf_some (fun x hx => h0 x (by simp [hx])) h2
      exact ⟨p, by simp [hp], e⟩
theorem outs_iff {l D : List S32} (h : Canon l D) (h0 : ∀ p ∈ l, 0 ≤ p.f1) (x : List Int) : Outs l x ↔ ∃ q ∈ D, q.f0 = x := by
  have d0 : ∀ p ∈ D, 0 ≤ p.f1 := fun p hp => Int.le_of_lt (h.pos p hp)
  constructor
  · rintro ⟨p, hp, e, hpos⟩
    have := wOf_ge h0 hp
    rw [e, ← h.w] at this
    exact wOf_mem (by omega)
  · rintro ⟨q, hq, e⟩
    have := wOf_ge d0 hq
    have := h.pos q hq
    subst e
    exact wOf_some h0 (by rw [← h.w]; omega)
def Fit (l : List S32) (a : List Int) (b : Bool) (x : List Int) : Prop := Outs l x ∧ (b = true → cmpL x a > 0)
def Least (S : List Int → Prop) (o : List Int) (f : Bool) : Prop := (f = true → S o ∧ ∀ x, S x → cmpL o x ≤ 0) ∧ (f = false → ∀ x, ¬ S x)
theorem Least.new {S S' : List Int → Prop} {o v : List Int} (h : Least S o false) (hS : ∀ x, S' x ↔ S x ∨ x = v) : Least S' v true :=
  ⟨fun _ => ⟨(hS v).2 (.inr rfl), fun x hx => by
    rcases (hS x).1 hx with h1 | h1
    · exact absurd h1 (h.2 rfl x)
    · rw [h1, cmpL_self]; exact Int.le_refl 0⟩, fun c => by cases c⟩
theorem Least.lt {S S' : List Int → Prop} {o v : List Int} (h : Least S o true) (c : cmpL v o < 0) (hS : ∀ x, S' x ↔ S x ∨ x = v) : Least S' v true :=
  ⟨fun _ => ⟨(hS v).2 (.inr rfl), fun x hx => by
    rcases (hS x).1 hx with h1 | h1
    · exact cmpL_le_trans _ _ _ (Int.le_of_lt c) ((h.1 rfl).2 x h1)
    · rw [h1, cmpL_self]; exact Int.le_refl 0⟩, fun c => by cases c⟩
theorem Least.ge {S S' : List Int → Prop} {o v : List Int} (h : Least S o true) (c : ¬ cmpL v o < 0) (hS : ∀ x, S' x ↔ S x ∨ x = v) : Least S' o true :=
  ⟨fun _ => ⟨(hS o).2 (.inl (h.1 rfl).1), fun x hx => by
    rcases (hS x).1 hx with h1 | h1
    · exact (h.1 rfl).2 x h1
    · have := cmpL_swap o v
      rw [h1]; omega⟩, fun c => by cases c⟩
theorem Least.same {S S' : List Int → Prop} {o : List Int} {f : Bool} (h : Least S o f) (hS : ∀ x, S' x ↔ S x) : Least S' o f :=
  ⟨fun c => ⟨(hS o).2 (h.1 c).1, fun x hx => (h.1 c).2 x ((hS x).1 hx)⟩, fun c x hx => h.2 c x ((hS x).1 hx)⟩
theorem outs_app (l : List S32) (p : S32) (x : List Int) : Outs (l ++ [p]) x ↔ Outs l x ∨ (x = p.f0 ∧ 0 < p.f1) := by
  constructor
  · rintro ⟨q, hq, e⟩
    rcases List.mem_append.1 hq with h | h
    · exact .inl ⟨q, h, e⟩
    · rw [List.mem_singleton.1 h] at e
      exact .inr ⟨e.1.symm, e.2⟩
  · rintro (⟨q, hq, e⟩ | ⟨e, h⟩)
    · exact ⟨q, by simp [hq], e⟩
    · exact ⟨p, by simp, e.symm, h⟩
theorem fit_same {l : List S32} {a : List Int} {b : Bool} {p : S32} (c : 0 < p.f1 → b = true → ¬ cmpL p.f0 a > 0) (c2 : 0 < p.f1 → b = true) (x : List Int) : Fit (l ++ [p]) a b x ↔ Fit l a b x := by
  unfold Fit
  rw [outs_app]
  constructor
  · rintro ⟨h | ⟨rfl, h⟩, k⟩
    · exact ⟨h, k⟩
    · exact absurd (k (c2 h)) (c h (c2 h))
  · rintro ⟨h, k⟩
    exact ⟨.inl h, k⟩
theorem fit_new {l : List S32} {a : List Int} {b : Bool} {p : S32} (c : 0 < p.f1) (k : b = true → cmpL p.f0 a > 0) (x : List Int) : Fit (l ++ [p]) a b x ↔ Fit l a b x ∨ x = p.f0 := by
  unfold Fit
  rw [outs_app]
  constructor
  · rintro ⟨h | ⟨rfl, h⟩, k⟩
    · exact .inl ⟨h, k⟩
    · exact .inr rfl
  · rintro (⟨h, k⟩ | rfl)
    · exact ⟨.inl h, k⟩
    · exact ⟨.inr ⟨rfl, c⟩, k⟩
theorem take_one {l : List S32} {i : Nat} (h : i < l.length) : l.take (i + 1) = l.take i ++ [l[i]] := by
  rw [List.take_add_one, List.getElem?_eq_getElem h]; rfl
theorem least_loop (l : List S32) (a : List Int) (b : Bool) (hl : l.length ≤ 1048576) (h1 : ∀ p ∈ l, p.f0.length ≤ 1048576) (ha : a.length ≤ 1048576) : ∀ (n i : Nat) (o : List Int) (f : Bool), i + n = l.length → Least (Fit (l.take i) a b) o f →
    ∃ o' f', hushref2_least.L0 a b o f l (l.length : Int) (i : Int) = some (o', f') ∧ Least (Fit l a b) o' f' := by
  intro n
  induction n with
  | zero =>
    intro i o f hi h
    rw [List.take_of_length_le (show l.length ≤ i by omega)] at h
    exact ⟨o, f, by rw [hushref2_least.L0_eq, if_neg (by omega)], h⟩
  | succ n ih =>
    intro i o f hi h
    have hxi : i < l.length := by omega
    have hp := h1 _ (mem_at hxi)
    have e := take_one hxi
    have next : ∀ o f, Least (Fit (l.take i ++ [l[i]]) a b) o f → ∃ o' f', hushref2_least.L0 a b o f l (l.length : Int) (wrap64 ((i : Int) + 1)) = some (o', f') ∧ Least (Fit l a b) o' f' := fun o f h' => by
      rw [w1 (by omega)]
      exact ih (i + 1) o f (by omega) (by rw [e]; exact h')
    rw [hushref2_least.L0_eq, if_pos (by omega), if_pos (by omega), if_pos (by omega), rd32At hxi]
    by_cases c1 : l[i].f1 > 0
    · rw [if_pos c1]
      have body : (b = true → cmpL l[i].f0 a > 0) → ∃ o' f', (if f = true then ((hushref2_Compare.F l[i].f0 o).bind fun t140 => (if t140 < 0 then (hushref2_least.L0 a b l[i].f0 true l (l.length : Int) (wrap64 ((i : Int) + 1))) else (hushref2_least.L0 a b o f l (l.length : Int) (wrap64 ((i : Int) + 1))))) else (hushref2_least.L0 a b l[i].f0 true l (l.length : Int) (wrap64 ((i : Int) + 1)))) = some (o', f') ∧ Least (Fit l a b) o' f' := by
        intro k
        have hn := fit_new (l := l.take i) c1 k
        cases f with
        | false =>
          rw [if_neg (by decide)]
          exact next _ _ (h.new hn)
        | true =>
          have ho : o.length ≤ 1048576 := by
            obtain ⟨q, hq, e, _⟩ := (h.1 rfl).1.1
            rw [← e]
            exact h1 q (List.mem_of_mem_take hq)
          rw [if_pos rfl, rcmpF _ _ hp ho, Option.bind_some]
          by_cases c2 : cmpL l[i].f0 o < 0
          · rw [if_pos c2]
            exact next _ _ (h.lt c2 hn)
          · rw [if_neg c2]
            exact next _ _ (h.ge c2 hn)
      cases b with
      | false =>
        rw [if_neg (by decide)]
        exact body (fun c => by cases c)
      | true =>
        rw [if_pos rfl, rcmpF _ _ hp ha, Option.bind_some]
        by_cases c2 : cmpL l[i].f0 a > 0
        · rw [if_pos c2]
          exact body (fun _ => c2)
        · rw [if_neg c2]
          exact next _ _ (h.same (fit_same (fun _ _ => c2) (fun _ => rfl)))
    · rw [if_neg c1]
      exact next _ _ (h.same (fit_same (fun h => absurd h c1) (fun h => absurd h c1)))
theorem leastF (l : List S32) (a : List Int) (b : Bool) (hl : l.length ≤ 1048576) (h1 : ∀ p ∈ l, p.f0.length ≤ 1048576) (ha : a.length ≤ 1048576) : ∃ o f, hushref2_least.F l a b = some (o, f) ∧ Least (Fit l a b) o f := by
  rw [hushref2_least.F_eq]
  exact least_loop l a b hl h1 ha l.length 0 [] false (by omega) ⟨fun c => (by cases c), fun _ x hx => (by
    obtain ⟨⟨p, hp, _⟩, _⟩ := hx
    cases hp)⟩
def OutsOf (B : List S32) (x : List Int) : Prop := ∃ q ∈ B, q.f0 = x
theorem least_nil {o : List Int} {f : Bool} (h : Least (OutsOf []) o f) : f = false := by
  cases f with
  | false => rfl
  | true =>
    obtain ⟨q, hq, _⟩ := (h.1 rfl).1
    cases hq
theorem least_cons {q : S32} {B : List S32} {o : List Int} {f : Bool} (hs : Strict (q :: B)) (h : Least (OutsOf (q :: B)) o f) : f = true ∧ o = q.f0 := by
  cases f with
  | false => exact absurd ⟨q, by simp, rfl⟩ (h.2 rfl q.f0)
  | true =>
    refine ⟨rfl, ?_⟩
    obtain ⟨⟨r, hr, e⟩, h2⟩ := h.1 rfl
    have h3 := h2 q.f0 ⟨q, by simp, rfl⟩
    rcases List.mem_cons.1 hr with c | c
    · rw [← e, c]
    · have h4 := (List.pairwise_cons.1 hs).1 r c
      have := cmpL_swap q.f0 r.f0
      rw [e] at h4 this
      omega
theorem fit_first {l D : List S32} (h : Canon l D) (h0 : ∀ p ∈ l, 0 ≤ p.f1) (a x : List Int) : OutsOf D x ↔ Fit l a false x := by
  unfold Fit
  rw [outs_iff h h0]
  exact ⟨fun k => ⟨k, fun c => by cases c⟩, fun k => k.1⟩
theorem fit_next {l A B : List S32} {q : S32} (h : Canon l (A ++ q :: B)) (h0 : ∀ p ∈ l, 0 ≤ p.f1) (x : List Int) : OutsOf B x ↔ Fit l q.f0 true x := by
  unfold Fit
  rw [outs_iff h h0]
  have hs := List.pairwise_append.1 h.st
  constructor
  · rintro ⟨r, hr, rfl⟩
    refine ⟨⟨r, by simp [hr], rfl⟩, fun _ => ?_⟩
    have h1 := (List.pairwise_cons.1 hs.2.1).1 r hr
    have := cmpL_swap q.f0 r.f0
    omega
  · rintro ⟨⟨r, hr, rfl⟩, k⟩
    have k := k rfl
    rcases List.mem_append.1 hr with c | c
    · have := hs.2.2 r c q (by simp)
      omega
    · rcases List.mem_cons.1 c with c | c
      · rw [c, cmpL_self] at k; omega
      · exact ⟨r, c, rfl⟩
theorem l2_loop (g : Nat) (hg : 0 < g) : ∀ (B A : List S32), A.length + B.length ≤ 1048576 → (∀ p ∈ B, 0 ≤ p.f1 ∧ p.f1 ≤ 4611686018427387904) →
    hushref2_Tidy.L2 (A ++ B) (g : Int) ((A.length + B.length : Nat) : Int) (A.length : Int) = some (A ++ B.map (fun p => ⟨p.f0, p.f1 / (g : Int)⟩), 0)
  | [], A, hl, _ => by
    rw [hushref2_Tidy.L2_eq, if_neg (by simp)]
    rfl
  | q :: B, A, hl, h0 => by
    rw [List.length_cons] at hl
    have hxi : A.length < (A ++ q :: B).length := by rw [List.length_append, List.length_cons]; omega
    have hq := h0 q (by simp)
    rw [hushref2_Tidy.L2_eq, if_pos (by rw [List.length_cons]; omega), if_pos (by omega), if_pos (by omega), if_neg (by omega), rd32At hxi, w1 (by omega)]
    have e1 : (A ++ q :: B)[A.length] = q := by simp
    rw [e1, quot hq.1 (by omega), Int.toNat_natCast]
    have e2 : (A ++ q :: B).set A.length ⟨q.f0, q.f1 / (g : Int)⟩ = (A ++ [⟨q.f0, q.f1 / (g : Int)⟩]) ++ B := by simp
    rw [e2]
    have ih := l2_loop g hg B (A ++ [⟨q.f0, q.f1 / (g : Int)⟩]) (by rw [List.length_append, List.length_singleton]; omega) (fun p hp => h0 p (by simp [hp]))
    rw [List.length_append, List.length_singleton] at ih
    rw [show A.length + (q :: B).length = A.length + 1 + B.length by rw [List.length_cons]; omega, ih, List.map_cons, List.append_assoc]
    rfl
theorem g_loop (D : List S32) (hl : D.length ≤ 1048576) (h0 : ∀ p ∈ D, 0 < p.f1 ∧ p.f1 ≤ 4611686018427387904) : ∀ (n i g : Nat), i + n = D.length → 0 < g → g ≤ 4611686018427387904 →
    ∃ g', g' = (D.drop i).foldl (fun g p => Nat.gcd p.f1.toNat g) g ∧ 0 < g' ∧ hushref2_Tidy.L1 D (g : Int) D (D.length : Int) (i : Int) = hushref2_Tidy.L1 D (g' : Int) D (D.length : Int) (D.length : Int) := by
  intro n
  induction n with
  | zero =>
    intro i g hi hg _
    obtain rfl : i = D.length := by omega
    exact ⟨g, by rw [List.drop_length]; rfl, hg, rfl⟩
  | succ n ih =>
    intro i g hi hg hb
    have hxi : i < D.length := by omega
    have hm := h0 _ (mem_at hxi)
    obtain ⟨x, hx⟩ := Int.eq_ofNat_of_zero_le (Int.le_of_lt hm.1)
    have hgp : 0 < Nat.gcd x g := Nat.gcd_pos_of_pos_right _ hg
    have hgl : Nat.gcd x g ≤ g := Nat.gcd_le_right _ hg
    obtain ⟨g', e, p, r⟩ := ih (i + 1) (Nat.gcd x g) (by omega) hgp (by omega)
    refine ⟨g', ?_, p, ?_⟩
    · rw [e, List.drop_eq_getElem_cons hxi, List.foldl_cons, hx, Int.toNat_natCast]
    · rw [hushref2_Tidy.L1_eq, if_pos (by omega), if_pos (by omega), if_pos (by omega), rd32At hxi, divF (by omega) (by omega) (by omega) (by omega), Option.bind_some, hx, w1 (by omega)]
      exact r
theorem one_le {l : List S32} (h0 : ∀ p ∈ l, 0 ≤ p.f1) {p : S32} (h : p ∈ l) : p.f1 ≤ totOf l := by
  have h1 := wOf_ge h0 h
  have h2 := (wOf_le h0 p.f0).2
  omega
noncomputable def tidyEnd (D : List S32) : Option (List S32 × Int) := if (D.length : Int) = 0 then (some (([] : List (S32)), 6)) else (if 0 < (D.length : Int) then (hushref2_Tidy.L1 D ((rd_T32 D 0).f1) D (D.length : Int) 0) else (none))
theorem tidyEnd_is (D : List S32) (hl : D.length ≤ 1048576) (h0 : ∀ p ∈ D, 0 < p.f1) (ht : totOf D ≤ 4611686018427387904) : tidyEnd D = some (tDone D) := by
  have h0' : ∀ p ∈ D, 0 ≤ p.f1 := fun p hp => Int.le_of_lt (h0 p hp)
  have hb : ∀ p ∈ D, 0 < p.f1 ∧ p.f1 ≤ 4611686018427387904 := fun p hp => ⟨h0 p hp, Int.le_trans (one_le h0' hp) ht⟩
  have hT := rtotF D hl h0' ht
  have ht0 := tot_ge h0'
  unfold tidyEnd tDone
  cases D with
  | nil => rw [if_pos (by simp), if_pos rfl]
  | cons q D' =>
    have hq := hb q (by simp)
    obtain ⟨x, hx⟩ := Int.eq_ofNat_of_zero_le (Int.le_of_lt hq.1)
    rw [if_neg (by rw [List.length_cons]; omega), if_pos (by rw [List.length_cons]; omega), if_neg (by simp)]
    have e1 : (rd_T32 (q :: D') 0).f1 = (x : Int) := hx
    rw [e1]
    obtain ⟨g', e, hg, r⟩ := g_loop (q :: D') hl hb (q :: D').length 0 x (by omega) (by omega) (by omega)
    rw [show ((0 : Nat) : Int) = 0 from rfl] at r
    rw [r]
    have eg : g' = gOf (q :: D') := by
      rw [e]
      unfold gOf
      rw [List.drop_zero, List.foldl_cons, List.foldl_cons, hx, Int.toNat_natCast, Nat.gcd_self, Nat.gcd_zero_right]
    rw [← eg, hushref2_Tidy.L1_eq, if_neg (by omega), hT, Option.bind_some, if_neg (by omega), quot ht0 (by omega)]
    have hj : ∀ b : Bool, b = decide (totOf (q :: D') / (g' : Int) > 1073741824 ∨ (q :: D').length > 4096) → hushref2_Tidy.J2 (q :: D') (g' : Int) b = some (if totOf (q :: D') / (g' : Int) > 1073741824 ∨ (q :: D').length > 4096 then ([], 4) else ((q :: D').map (fun p => ⟨p.f0, p.f1 / (g' : Int)⟩), 0)) := by
      intro b hb'
      rw [hushref2_Tidy.J2_eq]
      subst hb'
      by_cases c : totOf (q :: D') / (g' : Int) > 1073741824 ∨ (q :: D').length > 4096
      · rw [if_pos (decide_eq_true c), if_pos c]
      · rw [if_neg (by simpa using c), if_neg c]
        have := l2_loop g' hg (q :: D') [] (by simpa using hl) (fun p hp => ⟨h0' p hp, (hb p hp).2⟩)
        simpa using this
    by_cases c1 : totOf (q :: D') / (g' : Int) > 1073741824
    · rw [if_pos c1]
      exact hj true (by simp [c1])
    · rw [if_neg c1]
      refine hj _ ?_
      rw [decide_eq_decide]
      constructor
      · intro h; exact .inr (by omega)
      · rintro (h | h)
        · exact absurd h c1
        · omega
theorem tidy_loop (l D : List S32) (hl : l.length ≤ 1048576) (h1 : ∀ p ∈ l, p.f0.length ≤ 1048576) (h0 : ∀ p ∈ l, 0 ≤ p.f1) (ht : totOf l ≤ 4611686018427387904) (hd : D.length ≤ 1048576) (h : Canon l D) : ∀ (B A : List S32) (o : List Int) (f : Bool), D = A ++ B → Least (OutsOf B) o f →
    hushref2_Tidy.L0 l A o f = tidyEnd D
  | [], A, o, f, e, hf => by
    rw [least_nil hf, hushref2_Tidy.L0_eq, if_neg (by decide), e, List.append_nil]
    rfl
  | q :: B, A, o, f, e, hf => by
    have hs : Strict (q :: B) := by have := h.st; rw [e] at this; exact (List.pairwise_append.1 this).2.1
    obtain ⟨rfl, rfl⟩ := least_cons hs hf
    have hq : q.f0.length ≤ 1048576 := by
      obtain ⟨p, hp, e', _⟩ := (outs_iff h h0 q.f0).2 ⟨q, by rw [e]; simp, rfl⟩
      rw [← e']; exact h1 p hp
    have hw : wOf l q.f0 = q.f1 := by
      have := h.w q.f0
      rw [e, wOf_app, wOf_cons, if_pos rfl, strict_head hs, wOf_none A q.f0 (fun r hr c => by
        have h3 := h.st
        rw [e] at h3
        have h4 := (List.pairwise_append.1 h3).2.2 r hr q (by simp)
        rw [c, cmpL_self] at h4
        omega)] at this
      omega
    obtain ⟨o', f', e1, e2⟩ := leastF l q.f0 true hl h1 hq
    rw [hushref2_Tidy.L0_eq, if_pos rfl, weightF l _ hq hl h1 h0 ht, Option.bind_some, if_pos (by rw [e, List.length_append] at hd; omega), e1, Option.bind_some, hw]
    exact tidy_loop l D hl h1 h0 ht hd h B (A ++ [q]) o' f' (by rw [e, List.append_assoc]; rfl) (e2.same (fun x => fit_next (A := A) (by rw [← e]; exact h) h0 x))
theorem tStep_len (d : List S32) (p : S32) : (tStep d p).length ≤ d.length + 1 := by
  unfold tStep
  split
  · omega
  · split
    · split
      · rw [List.length_append, List.length_dropLast, List.length_singleton]; omega
      · rw [List.length_append, List.length_singleton]; omega
    · rw [List.length_append, List.length_singleton]; omega
theorem tFold_len : ∀ (l d : List S32), (l.foldl tStep d).length ≤ d.length + l.length
  | [], d => by simp
  | p :: l, d => by
    have := tFold_len l (tStep d p)
    have := tStep_len d p
    rw [List.foldl_cons, List.length_cons]; omega
theorem tMerge_len (l : List S32) : (tMerge (sortP l)).length ≤ l.length := by
  have := tFold_len (sortP l) []
  rw [(sortP_perm l).length_eq, List.length_nil] at this
  unfold tMerge
  omega
theorem totOf_app : ∀ (a b : List S32), totOf (a ++ b) = totOf a + totOf b
  | [], b => by rw [totOf_nil]; exact (Int.zero_add _).symm
  | p :: a, b => by rw [List.cons_append, totOf_cons, totOf_cons, totOf_app a b]; omega
theorem totOf_perm {a b : List S32} (h : a.Perm b) : totOf a = totOf b := isum_perm (h.map _)
theorem tStep_tot (d : List S32) (p : S32) : totOf (tStep d p) = totOf d + p.f1 := by
  unfold tStep
  split
  · omega
  · split
    · rename_i q hq
      obtain ⟨d0, e⟩ : ∃ d0, d = d0 ++ [q] := List.getLast?_eq_some_iff.1 hq
      subst e
      split
      · rw [List.dropLast_concat, totOf_app, totOf_app, totOf_cons, totOf_cons, totOf_nil]
        show _ + (q.f1 + p.f1 + 0) = _
        omega
      · rw [totOf_app _ [p], totOf_cons p, totOf_nil]; omega
    · rw [totOf_app, totOf_cons, totOf_nil]; omega
theorem tFold_tot : ∀ (l d : List S32), totOf (l.foldl tStep d) = totOf d + totOf l
  | [], d => by rw [totOf_nil]; exact (Int.add_zero _).symm
  | p :: l, d => by rw [List.foldl_cons, tFold_tot, tStep_tot, totOf_cons]; omega
theorem tMerge_tot (l : List S32) : totOf (tMerge (sortP l)) = totOf l := by
  unfold tMerge
  rw [tFold_tot, totOf_perm (sortP_perm l), totOf_nil]; omega
theorem rtidyF (l : List S32) (hl : l.length ≤ 1048576) (h1 : ∀ p ∈ l, p.f0.length ≤ 1048576) (h0 : ∀ p ∈ l, 0 ≤ p.f1) (ht : totOf l ≤ 4611686018427387904) : hushref2_Tidy.F l = some (tDone (tMerge (sortP l))) := by
  have hc := tidy_canon h0
  obtain ⟨o, f, e1, e2⟩ := leastF l [] false hl h1 (by simp)
  have hlen := tMerge_len l
  rw [hushref2_Tidy.F_eq, e1, Option.bind_some, tidy_loop l _ hl h1 h0 ht (by omega) hc _ [] o f rfl (e2.same (fit_first hc h0 []))]
  exact tidyEnd_is _ (by omega) hc.pos (by rw [tMerge_tot]; exact ht)
end Go.Proofs.Ytkemhfhmlcljjaa.DistPure
end
section
namespace Go.Proofs.Ytkemhfhmlcljjaa.PD
open Go.RowKit Go.Proofs.YtkemhfhmlcljjaaW.PrintWords Go.Proofs.YtkemhfhmlcljjaaW.PrintLast Go.Proofs.YtkemhfhmlcljjaaW.PrintMore
open Go.Proofs.YtkemhfhmlcljjaaW.EvKit
set_option linter.unusedVariables false
noncomputable def dist_Make.L0 (x4 : List (S32)) (x7 : List (S32)) (x8 : Int) (x9 : Int) : Option ((List (S32)) × Int) := lim (fun k => dist_Make.l0 k x4 x7 x8 x9)
theorem dist_Make.L0_is (x4 : List (S32)) (x7 : List (S32)) (x8 : Int) (x9 : Int) : LimIs (fun k => dist_Make.l0 k x4 x7 x8 x9) (dist_Make.L0 x4 x7 x8 x9) := ⟨fun k => (dist_Make.mono_l k) x4 x7 x8 x9, rfl⟩
noncomputable def dist_Make.F (l0 : List (S32)) : Option ((List (S32)) × Int) := lim (fun k => dist_Make.f k l0)
theorem dist_Make.F_is (l0 : List (S32)) : LimIs (fun k => dist_Make.f k l0) (dist_Make.F l0) := ⟨fun k => dist_Make.mono l0 k, rfl⟩
noncomputable def dist_same_1.F (l0_0 : List Int) (a0_1 : Int) (l1_0 : List Int) (a1_1 : Int) : Option (Bool) := lim (fun k => dist_same_1.f k l0_0 a0_1 l1_0 a1_1)
theorem dist_same_1.F_is (l0_0 : List Int) (a0_1 : Int) (l1_0 : List Int) (a1_1 : Int) : LimIs (fun k => dist_same_1.f k l0_0 a0_1 l1_0 a1_1) (dist_same_1.F l0_0 a0_1 l1_0 a1_1) := ⟨fun k => dist_same_1.mono l0_0 a0_1 l1_0 a1_1 k, rfl⟩
set_option maxRecDepth 100000 in
theorem dist_Make.L0_eq (x4 : List (S32)) (x7 : List (S32)) (x8 : Int) (x9 : Int) : dist_Make.L0 x4 x7 x8 x9 = if x9 < x8 then (if 0 ≤ x9 then (if x9 < (x7.length : Int) then ((dist_small.F ((rd_T32 x7 x9).f0)).bind fun t120 => (if t120 = true then (if ((rd_T32 x7 x9).f1) < 0 then (some (([] : List (S32)), 3)) else (if ((rd_T32 x7 x9).f1) > 1073741824 then (some (([] : List (S32)), 3)) else ((slices_Clone_int_int.f ((rd_T32 x7 x9).f0)).bind fun t121 => (if x4.length < 4398046511104 then (dist_Make.L0 (x4 ++ [(⟨t121, (rd_T32 x7 x9).f1⟩ : S32)]) x7 x8 (wrap64 (x9 + 1))) else (none))))) else (some (([] : List (S32)), 3)))) else (none)) else (none)) else ((dist_tidy.F x4).bind fun bt114 => (some (bt114.1, bt114.2))) := by
  refine LimIs.step' (dist_Make.L0_is x4 x7 x8 x9).1 (b := fun k => if x9 < x8 then (if 0 ≤ x9 then (if x9 < (x7.length : Int) then ((dist_small.f k ((rd_T32 x7 x9).f0)).bind fun t120 => (if t120 = true then (if ((rd_T32 x7 x9).f1) < 0 then (some (([] : List (S32)), 3)) else (if ((rd_T32 x7 x9).f1) > 1073741824 then (some (([] : List (S32)), 3)) else ((slices_Clone_int_int.f ((rd_T32 x7 x9).f0)).bind fun t121 => (if x4.length < 4398046511104 then (dist_Make.l0 k (x4 ++ [(⟨t121, (rd_T32 x7 x9).f1⟩ : S32)]) x7 x8 (wrap64 (x9 + 1))) else (none))))) else (some (([] : List (S32)), 3)))) else (none)) else (none)) else ((dist_tidy.f k x4).bind fun bt114 => (some (bt114.1, bt114.2)))) (fun k => by first | rfl | rw [dist_Make.l0]) ?_
  repeat' first
    | (with_reducible exact dist_small.F_is _)
    | (with_reducible exact dist_Make.L0_is _ _ _ _)
    | (with_reducible exact dist_tidy.F_is _)
    | (with_reducible exact LimIs.const _)
    | (with_reducible refine LimIs.ite ?_ ?_)
    | (with_reducible refine LimIs.bind ?_ (fun _ => ?_))
    | exact dist_small.F_is _
    | exact dist_Make.L0_is _ _ _ _
    | exact dist_tidy.F_is _
    | exact LimIs.const _
    | refine LimIs.ite ?_ ?_
    | refine LimIs.bind ?_ (fun _ => ?_)
set_option maxRecDepth 100000 in
theorem dist_Make.F_eq (l0 : List (S32)) : dist_Make.F l0 = dist_Make.L0 ([] : List (S32)) l0 (l0.length : Int) 0 := by
  refine LimIs.out (?_ : LimIs (fun k => dist_Make.l0 k ([] : List (S32)) l0 (l0.length : Int) 0) _)
  repeat' first
    | (with_reducible exact dist_Make.L0_is _ _ _ _)
    | (with_reducible exact LimIs.const _)
    | (with_reducible refine LimIs.ite ?_ ?_)
    | (with_reducible refine LimIs.bind ?_ (fun _ => ?_))
    | exact dist_Make.L0_is _ _ _ _
    | exact LimIs.const _
    | refine LimIs.ite ?_ ?_
    | refine LimIs.bind ?_ (fun _ => ?_)
set_option maxRecDepth 100000 in
theorem dist_same_1.F_eq (l0_0 : List Int) (a0_1 : Int) (l1_0 : List Int) (a1_1 : Int) : dist_same_1.F l0_0 a0_1 l1_0 a1_1 = if a0_1 = a1_1 then ((slices_Equal_int_int.F l0_0 l1_0).bind fun t129 => (some t129)) else (some false) := by
  refine LimIs.out (?_ : LimIs (fun k => if a0_1 = a1_1 then ((slices_Equal_int_int.f k l0_0 l1_0).bind fun t129 => (some t129)) else (some false)) _)
  repeat' first
    | (with_reducible exact slices_Equal_int_int.F_is _ _)
    | (with_reducible exact LimIs.const _)
    | (with_reducible refine LimIs.ite ?_ ?_)
    | (with_reducible refine LimIs.bind ?_ (fun _ => ?_))
    | exact slices_Equal_int_int.F_is _ _
    | exact LimIs.const _
    | refine LimIs.ite ?_ ?_
    | refine LimIs.bind ?_ (fun _ => ?_)
end Go.Proofs.Ytkemhfhmlcljjaa.PD
end
section
namespace Go.Proofs.Ytkemhfhmlcljjaa.PD
open Go.RowKit Go.Proofs.YtkemhfhmlcljjaaW.PrintWords Go.Proofs.YtkemhfhmlcljjaaW.PrintLast Go.Proofs.YtkemhfhmlcljjaaW.PrintMore
open Go.Proofs.YtkemhfhmlcljjaaW.EvKit
set_option linter.unusedVariables false
noncomputable def hushref2_Make.L0 (x0 : List (S32)) (x6 : List (S32)) (x7 : Int) (x8 : Int) : Option ((List (S32)) × Int) := lim (fun k => hushref2_Make.l0 k x0 x6 x7 x8)
theorem hushref2_Make.L0_is (x0 : List (S32)) (x6 : List (S32)) (x7 : Int) (x8 : Int) : LimIs (fun k => hushref2_Make.l0 k x0 x6 x7 x8) (hushref2_Make.L0 x0 x6 x7 x8) := ⟨fun k => (hushref2_Make.mono_l k) x0 x6 x7 x8, rfl⟩
noncomputable def hushref2_Same.L0 (x0 : List (S32)) (x1 : List (S32)) (x12 : Int) (x13 : Int) : Option (Bool) := lim (fun k => hushref2_Same.l0 k x0 x1 x12 x13)
theorem hushref2_Same.L0_is (x0 : List (S32)) (x1 : List (S32)) (x12 : Int) (x13 : Int) : LimIs (fun k => hushref2_Same.l0 k x0 x1 x12 x13) (hushref2_Same.L0 x0 x1 x12 x13) := ⟨fun k => (hushref2_Same.mono_l k) x0 x1 x12 x13, rfl⟩
noncomputable def hushref2_Make.F (l0 : List (S32)) : Option ((List (S32)) × Int) := lim (fun k => hushref2_Make.f k l0)
theorem hushref2_Make.F_is (l0 : List (S32)) : LimIs (fun k => hushref2_Make.f k l0) (hushref2_Make.F l0) := ⟨fun k => hushref2_Make.mono l0 k, rfl⟩
noncomputable def hushref2_Same.F (l0 : List (S32)) (l1 : List (S32)) : Option (Bool) := lim (fun k => hushref2_Same.f k l0 l1)
theorem hushref2_Same.F_is (l0 : List (S32)) (l1 : List (S32)) : LimIs (fun k => hushref2_Same.f k l0 l1) (hushref2_Same.F l0 l1) := ⟨fun k => hushref2_Same.mono l0 l1 k, rfl⟩
set_option maxRecDepth 100000 in
theorem hushref2_Make.L0_eq (x0 : List (S32)) (x6 : List (S32)) (x7 : Int) (x8 : Int) : hushref2_Make.L0 x0 x6 x7 x8 = if x8 < x7 then (if 0 ≤ x8 then (if x8 < (x6.length : Int) then ((hushref2_Small.F ((rd_T32 x6 x8).f0)).bind fun t179 => (if t179 = true then (if ((rd_T32 x6 x8).f1) < 0 then (some (([] : List (S32)), 3)) else (if ((rd_T32 x6 x8).f1) > 1073741824 then (some (([] : List (S32)), 3)) else (hushref2_Make.L0 x0 x6 x7 (wrap64 (x8 + 1))))) else (some (([] : List (S32)), 3)))) else (none)) else (none)) else ((hushref2_Tidy.F x0).bind fun bt180 => (some (bt180.1, bt180.2))) := by
  refine LimIs.step' (hushref2_Make.L0_is x0 x6 x7 x8).1 (b := fun k => if x8 < x7 then (if 0 ≤ x8 then (if x8 < (x6.length : Int) then ((hushref2_Small.f k ((rd_T32 x6 x8).f0)).bind fun t179 => (if t179 = true then (if ((rd_T32 x6 x8).f1) < 0 then (some (([] : List (S32)), 3)) else (if ((rd_T32 x6 x8).f1) > 1073741824 then (some (([] : List (S32)), 3)) else (hushref2_Make.l0 k x0 x6 x7 (wrap64 (x8 + 1))))) else (some (([] : List (S32)), 3)))) else (none)) else (none)) else ((hushref2_Tidy.f k x0).bind fun bt180 => (some (bt180.1, bt180.2)))) (fun k => by first | rfl | rw [hushref2_Make.l0]) ?_
  repeat' first
    | (with_reducible exact hushref2_Small.F_is _)
    | (with_reducible exact hushref2_Make.L0_is _ _ _ _)
    | (with_reducible exact hushref2_Tidy.F_is _)
    | (with_reducible exact LimIs.const _)
    | (with_reducible refine LimIs.ite ?_ ?_)
    | (with_reducible refine LimIs.bind ?_ (fun _ => ?_))
    | exact hushref2_Small.F_is _
    | exact hushref2_Make.L0_is _ _ _ _
    | exact hushref2_Tidy.F_is _
    | exact LimIs.const _
    | refine LimIs.ite ?_ ?_
    | refine LimIs.bind ?_ (fun _ => ?_)
set_option maxRecDepth 100000 in
theorem hushref2_Same.L0_eq (x0 : List (S32)) (x1 : List (S32)) (x12 : Int) (x13 : Int) : hushref2_Same.L0 x0 x1 x12 x13 = if x13 < x12 then (if 0 ≤ x13 then (if x13 < (x0.length : Int) then (if x13 < (x1.length : Int) then (if ((rd_T32 x0 x13).f1) = ((rd_T32 x1 x13).f1) then ((hushref2_Compare.F ((rd_T32 x0 x13).f0) ((rd_T32 x1 x13).f0)).bind fun t188 => (if t188 = 0 then (hushref2_Same.L0 x0 x1 x12 (wrap64 (x13 + 1))) else (some false))) else (some false)) else (none)) else (none)) else (none)) else (some true) := by
  refine LimIs.step' (hushref2_Same.L0_is x0 x1 x12 x13).1 (b := fun k => if x13 < x12 then (if 0 ≤ x13 then (if x13 < (x0.length : Int) then (if x13 < (x1.length : Int) then (if ((rd_T32 x0 x13).f1) = ((rd_T32 x1 x13).f1) then ((hushref2_Compare.f k ((rd_T32 x0 x13).f0) ((rd_T32 x1 x13).f0)).bind fun t188 => (if t188 = 0 then (hushref2_Same.l0 k x0 x1 x12 (wrap64 (x13 + 1))) else (some false))) else (some false)) else (none)) else (none)) else (none)) else (some true)) (fun k => by first | rfl | rw [hushref2_Same.l0]) ?_
  repeat' first
    | (with_reducible exact hushref2_Compare.F_is _ _)
    | (with_reducible exact hushref2_Same.L0_is _ _ _ _)
    | (with_reducible exact LimIs.const _)
    | (with_reducible refine LimIs.ite ?_ ?_)
    | (with_reducible refine LimIs.bind ?_ (fun _ => ?_))
    | exact hushref2_Compare.F_is _ _
    | exact hushref2_Same.L0_is _ _ _ _
    | exact LimIs.const _
    | refine LimIs.ite ?_ ?_
    | refine LimIs.bind ?_ (fun _ => ?_)
set_option maxRecDepth 100000 in
theorem hushref2_Make.F_eq (l0 : List (S32)) : hushref2_Make.F l0 = hushref2_Make.L0 l0 l0 (l0.length : Int) 0 := by
  refine LimIs.out (?_ : LimIs (fun k => hushref2_Make.l0 k l0 l0 (l0.length : Int) 0) _)
  repeat' first
    | (with_reducible exact hushref2_Make.L0_is _ _ _ _)
    | (with_reducible exact LimIs.const _)
    | (with_reducible refine LimIs.ite ?_ ?_)
    | (with_reducible refine LimIs.bind ?_ (fun _ => ?_))
    | exact hushref2_Make.L0_is _ _ _ _
    | exact LimIs.const _
    | refine LimIs.ite ?_ ?_
    | refine LimIs.bind ?_ (fun _ => ?_)
set_option maxRecDepth 100000 in
theorem hushref2_Same.F_eq (l0 : List (S32)) (l1 : List (S32)) : hushref2_Same.F l0 l1 = if (l0.length : Int) = (l1.length : Int) then (hushref2_Same.L0 l0 l1 (l0.length : Int) 0) else (some false) := by
  refine LimIs.out (?_ : LimIs (fun k => if (l0.length : Int) = (l1.length : Int) then (hushref2_Same.l0 k l0 l1 (l0.length : Int) 0) else (some false)) _)
  repeat' first
    | (with_reducible exact hushref2_Same.L0_is _ _ _ _)
    | (with_reducible exact LimIs.const _)
    | (with_reducible refine LimIs.ite ?_ ?_)
    | (with_reducible refine LimIs.bind ?_ (fun _ => ?_))
    | exact hushref2_Same.L0_is _ _ _ _
    | exact LimIs.const _
    | refine LimIs.ite ?_ ?_
    | refine LimIs.bind ?_ (fun _ => ?_)
end Go.Proofs.Ytkemhfhmlcljjaa.PD
end
section
namespace Go.Proofs.Ytkemhfhmlcljjaa.PD
open Go.RowKit Go.Proofs.YtkemhfhmlcljjaaW.PrintWords Go.Proofs.YtkemhfhmlcljjaaW.PrintLast Go.Proofs.YtkemhfhmlcljjaaW.PrintMore
open Go.Proofs.YtkemhfhmlcljjaaW.EvKit
set_option linter.unusedVariables false
noncomputable def api_Part.L0 (x1 : List (S32)) (x15 : List (S32)) (x16 : Int) (x17 : Int) : Option (Bool) := lim (fun k => api_Part.l0 k x1 x15 x16 x17)
theorem api_Part.L0_is (x1 : List (S32)) (x15 : List (S32)) (x16 : Int) (x17 : Int) : LimIs (fun k => api_Part.l0 k x1 x15 x16 x17) (api_Part.L0 x1 x15 x16 x17) := ⟨fun k => (api_Part.mono_l k) x1 x15 x16 x17, rfl⟩
noncomputable def dist_wrongs.L0 (x6 : List (List (S32))) (x7 : Int) (x8 : Int) : Option (Int) := lim (fun k => dist_wrongs.l0 k x6 x7 x8)
theorem dist_wrongs.L0_is (x6 : List (List (S32))) (x7 : Int) (x8 : Int) : LimIs (fun k => dist_wrongs.l0 k x6 x7 x8) (dist_wrongs.L0 x6 x7 x8) := ⟨fun k => (dist_wrongs.mono_l k) x6 x7 x8, rfl⟩
noncomputable def api_Part.F (l0 : List (S32)) (l1 : List (S32)) (a2 : Int) : Option (Bool) := lim (fun k => api_Part.f k l0 l1 a2)
theorem api_Part.F_is (l0 : List (S32)) (l1 : List (S32)) (a2 : Int) : LimIs (fun k => api_Part.f k l0 l1 a2) (api_Part.F l0 l1 a2) := ⟨fun k => api_Part.mono l0 l1 a2 k, rfl⟩
noncomputable def dist_same.F (l0 : List (S32)) (l1 : List (S32)) : Option (Bool) := lim (fun k => dist_same.f k l0 l1)
theorem dist_same.F_is (l0 : List (S32)) (l1 : List (S32)) : LimIs (fun k => dist_same.f k l0 l1) (dist_same.F l0 l1) := ⟨fun k => dist_same.mono l0 l1 k, rfl⟩
noncomputable def dist_Wrong.F (l0 : List (S32)) : Option (Int) := lim (fun k => dist_Wrong.f k l0)
theorem dist_Wrong.F_is (l0 : List (S32)) : LimIs (fun k => dist_Wrong.f k l0) (dist_Wrong.F l0) := ⟨fun k => dist_Wrong.mono l0 k, rfl⟩
noncomputable def dist_wrongs.F (l0 : List (List (S32))) : Option (Int) := lim (fun k => dist_wrongs.f k l0)
theorem dist_wrongs.F_is (l0 : List (List (S32))) : LimIs (fun k => dist_wrongs.f k l0) (dist_wrongs.F l0) := ⟨fun k => dist_wrongs.mono l0 k, rfl⟩
set_option maxRecDepth 100000 in
theorem api_Part.L0_eq (x1 : List (S32)) (x15 : List (S32)) (x16 : Int) (x17 : Int) : api_Part.L0 x1 x15 x16 x17 = if x17 < x16 then (if 0 ≤ x17 then (if x17 < (x15.length : Int) then (if x17 < (x1.length : Int) then ((dist_same_1.F ((rd_T32 x15 x17).f0) ((rd_T32 x15 x17).f1) ((rd_T32 x1 x17).f0) ((rd_T32 x1 x17).f1)).bind fun t134 => (if t134 = true then (api_Part.L0 x1 x15 x16 (wrap64 (x17 + 1))) else (some false))) else (none)) else (none)) else (none)) else (some true) := by
  refine LimIs.step' (api_Part.L0_is x1 x15 x16 x17).1 (b := fun k => if x17 < x16 then (if 0 ≤ x17 then (if x17 < (x15.length : Int) then (if x17 < (x1.length : Int) then ((dist_same_1.f k ((rd_T32 x15 x17).f0) ((rd_T32 x15 x17).f1) ((rd_T32 x1 x17).f0) ((rd_T32 x1 x17).f1)).bind fun t134 => (if t134 = true then (api_Part.l0 k x1 x15 x16 (wrap64 (x17 + 1))) else (some false))) else (none)) else (none)) else (none)) else (some true)) (fun k => by first | rfl | rw [api_Part.l0]) ?_
  repeat' first
    | (with_reducible exact dist_same_1.F_is _ _ _ _)
    | (with_reducible exact api_Part.L0_is _ _ _ _)
    | (with_reducible exact LimIs.const _)
    | (with_reducible refine LimIs.ite ?_ ?_)
    | (with_reducible refine LimIs.bind ?_ (fun _ => ?_))
    | exact dist_same_1.F_is _ _ _ _
    | exact api_Part.L0_is _ _ _ _
    | exact LimIs.const _
    | refine LimIs.ite ?_ ?_
    | refine LimIs.bind ?_ (fun _ => ?_)
set_option maxRecDepth 100000 in
theorem dist_wrongs.L0_eq (x6 : List (List (S32))) (x7 : Int) (x8 : Int) : dist_wrongs.L0 x6 x7 x8 = if x8 < x7 then (if 0 ≤ x8 then (if x8 < (x6.length : Int) then ((dist_Wrong.F (rd_L3 x6 x8)).bind fun t142 => (if t142 = 0 then (dist_wrongs.L0 x6 x7 (wrap64 (x8 + 1))) else (some t142))) else (none)) else (none)) else (some 0) := by
  refine LimIs.step' (dist_wrongs.L0_is x6 x7 x8).1 (b := fun k => if x8 < x7 then (if 0 ≤ x8 then (if x8 < (x6.length : Int) then ((dist_Wrong.f k (rd_L3 x6 x8)).bind fun t142 => (if t142 = 0 then (dist_wrongs.l0 k x6 x7 (wrap64 (x8 + 1))) else (some t142))) else (none)) else (none)) else (some 0)) (fun k => by first | rfl | rw [dist_wrongs.l0]) ?_
  repeat' first
    | (with_reducible exact dist_Wrong.F_is _)
    | (with_reducible exact dist_wrongs.L0_is _ _ _)
    | (with_reducible exact LimIs.const _)
    | (with_reducible refine LimIs.ite ?_ ?_)
    | (with_reducible refine LimIs.bind ?_ (fun _ => ?_))
    | exact dist_Wrong.F_is _
    | exact dist_wrongs.L0_is _ _ _
    | exact LimIs.const _
    | refine LimIs.ite ?_ ?_
    | refine LimIs.bind ?_ (fun _ => ?_)
set_option maxRecDepth 100000 in
theorem api_Part.F_eq (l0 : List (S32)) (l1 : List (S32)) (a2 : Int) : api_Part.F l0 l1 a2 = if (l0.length : Int) = (l1.length : Int) then (api_Part.L0 l1 l0 (l0.length : Int) 0) else (some false) := by
  refine LimIs.out (?_ : LimIs (fun k => if (l0.length : Int) = (l1.length : Int) then (api_Part.l0 k l1 l0 (l0.length : Int) 0) else (some false)) _)
  repeat' first
    | (with_reducible exact api_Part.L0_is _ _ _ _)
    | (with_reducible exact LimIs.const _)
    | (with_reducible refine LimIs.ite ?_ ?_)
    | (with_reducible refine LimIs.bind ?_ (fun _ => ?_))
    | exact api_Part.L0_is _ _ _ _
    | exact LimIs.const _
    | refine LimIs.ite ?_ ?_
    | refine LimIs.bind ?_ (fun _ => ?_)
set_option maxRecDepth 100000 in
theorem dist_same.F_eq (l0 : List (S32)) (l1 : List (S32)) : dist_same.F l0 l1 = (api_Part.F l0 l1 990000082).bind fun t135 => (some t135) := by
  refine LimIs.out (?_ : LimIs (fun k => (api_Part.f k l0 l1 990000082).bind fun t135 => (some t135)) _)
  repeat' first
    | (with_reducible exact api_Part.F_is _ _ _)
    | (with_reducible exact LimIs.const _)
    | (with_reducible refine LimIs.ite ?_ ?_)
    | (with_reducible refine LimIs.bind ?_ (fun _ => ?_))
    | exact api_Part.F_is _ _ _
    | exact LimIs.const _
    | refine LimIs.ite ?_ ?_
    | refine LimIs.bind ?_ (fun _ => ?_)
set_option maxRecDepth 100000 in
theorem dist_Wrong.F_eq (l0 : List (S32)) : dist_Wrong.F l0 = (dist_Make.F l0).bind fun bt136 => (if bt136.2 = 0 then ((dist_same.F l0 bt136.1).bind fun t140 => (if t140 = true then (some bt136.2) else (some 2))) else (some bt136.2)) := by
  refine LimIs.out (?_ : LimIs (fun k => (dist_Make.f k l0).bind fun bt136 => (if bt136.2 = 0 then ((dist_same.f k l0 bt136.1).bind fun t140 => (if t140 = true then (some bt136.2) else (some 2))) else (some bt136.2))) _)
  repeat' first
    | (with_reducible exact dist_Make.F_is _)
    | (with_reducible exact dist_same.F_is _ _)
    | (with_reducible exact LimIs.const _)
    | (with_reducible refine LimIs.ite ?_ ?_)
    | (with_reducible refine LimIs.bind ?_ (fun _ => ?_))
    | exact dist_Make.F_is _
    | exact dist_same.F_is _ _
    | exact LimIs.const _
    | refine LimIs.ite ?_ ?_
    | refine LimIs.bind ?_ (fun _ => ?_)
set_option maxRecDepth 100000 in
theorem dist_wrongs.F_eq (l0 : List (List (S32))) : dist_wrongs.F l0 = dist_wrongs.L0 l0 (l0.length : Int) 0 := by
  refine LimIs.out (?_ : LimIs (fun k => dist_wrongs.l0 k l0 (l0.length : Int) 0) _)
  repeat' first
    | (with_reducible exact dist_wrongs.L0_is _ _ _)
    | (with_reducible exact LimIs.const _)
    | (with_reducible refine LimIs.ite ?_ ?_)
    | (with_reducible refine LimIs.bind ?_ (fun _ => ?_))
    | exact dist_wrongs.L0_is _ _ _
    | exact LimIs.const _
    | refine LimIs.ite ?_ ?_
    | refine LimIs.bind ?_ (fun _ => ?_)
end Go.Proofs.Ytkemhfhmlcljjaa.PD
end
section
namespace Go.Proofs.Ytkemhfhmlcljjaa.PD
open Go.RowKit Go.Proofs.YtkemhfhmlcljjaaW.PrintWords Go.Proofs.YtkemhfhmlcljjaaW.PrintLast Go.Proofs.YtkemhfhmlcljjaaW.PrintMore
open Go.Proofs.YtkemhfhmlcljjaaW.EvKit
set_option linter.unusedVariables false
noncomputable def hushref2_Outs.L0 (x0 : List (S32)) (x1 : List (S32)) (x5 : List (List Int)) (x10 : List (S32)) (x11 : Int) (x12 : Int) : Option ((List (List Int))) := lim (fun k => hushref2_Outs.l0 k x0 x1 x5 x10 x11 x12)
theorem hushref2_Outs.L0_is (x0 : List (S32)) (x1 : List (S32)) (x5 : List (List Int)) (x10 : List (S32)) (x11 : Int) (x12 : Int) : LimIs (fun k => hushref2_Outs.l0 k x0 x1 x5 x10 x11 x12) (hushref2_Outs.L0 x0 x1 x5 x10 x11 x12) := ⟨fun k => (hushref2_Outs.mono_l k).1 x0 x1 x5 x10 x11 x12, rfl⟩
noncomputable def hushref2_Outs.L1 (x0 : List (S32)) (x5 : List (List Int)) (x22 : List (S32)) (x23 : Int) (x24 : Int) : Option ((List (List Int))) := lim (fun k => hushref2_Outs.l1 k x0 x5 x22 x23 x24)
theorem hushref2_Outs.L1_is (x0 : List (S32)) (x5 : List (List Int)) (x22 : List (S32)) (x23 : Int) (x24 : Int) : LimIs (fun k => hushref2_Outs.l1 k x0 x5 x22 x23 x24) (hushref2_Outs.L1 x0 x5 x22 x23 x24) := ⟨fun k => (hushref2_Outs.mono_l k).2 x0 x5 x22 x23 x24, rfl⟩
noncomputable def hushref2_Wrong.F (l0 : List (S32)) : Option (Int) := lim (fun k => hushref2_Wrong.f k l0)
theorem hushref2_Wrong.F_is (l0 : List (S32)) : LimIs (fun k => hushref2_Wrong.f k l0) (hushref2_Wrong.F l0) := ⟨fun k => hushref2_Wrong.mono l0 k, rfl⟩
noncomputable def hushref2_Outs.F (l0 : List (S32)) (l1 : List (S32)) : Option ((List (List Int))) := lim (fun k => hushref2_Outs.f k l0 l1)
theorem hushref2_Outs.F_is (l0 : List (S32)) (l1 : List (S32)) : LimIs (fun k => hushref2_Outs.f k l0 l1) (hushref2_Outs.F l0 l1) := ⟨fun k => hushref2_Outs.mono l0 l1 k, rfl⟩
set_option maxRecDepth 100000 in
theorem hushref2_Outs.L0_eq (x0 : List (S32)) (x1 : List (S32)) (x5 : List (List Int)) (x10 : List (S32)) (x11 : Int) (x12 : Int) : hushref2_Outs.L0 x0 x1 x5 x10 x11 x12 = if x12 < x11 then (if 0 ≤ x12 then (if x12 < (x10.length : Int) then (if x5.length < 5864062014805 then (hushref2_Outs.L0 x0 x1 (x5 ++ [(rd_T32 x10 x12).f0]) x10 x11 (wrap64 (x12 + 1))) else (none)) else (none)) else (none)) else (hushref2_Outs.L1 x0 x5 x1 (x1.length : Int) 0) := by
  refine LimIs.step' (hushref2_Outs.L0_is x0 x1 x5 x10 x11 x12).1 (b := fun k => if x12 < x11 then (if 0 ≤ x12 then (if x12 < (x10.length : Int) then (if x5.length < 5864062014805 then (hushref2_Outs.l0 k x0 x1 (x5 ++ [(rd_T32 x10 x12).f0]) x10 x11 (wrap64 (x12 + 1))) else (none)) else (none)) else (none)) else (hushref2_Outs.l1 k x0 x5 x1 (x1.length : Int) 0)) (fun k => by first | rfl | rw [hushref2_Outs.l0]) ?_
  repeat' first
    | (with_reducible exact hushref2_Outs.L0_is _ _ _ _ _ _)
    | (with_reducible exact hushref2_Outs.L1_is _ _ _ _ _)
    | (with_reducible exact LimIs.const _)
    | (with_reducible refine LimIs.ite ?_ ?_)
    | (with_reducible refine LimIs.bind ?_ (fun _ => ?_))
    | exact hushref2_Outs.L0_is _ _ _ _ _ _
    | exact hushref2_Outs.L1_is _ _ _ _ _
    | exact LimIs.const _
    | refine LimIs.ite ?_ ?_
    | refine LimIs.bind ?_ (fun _ => ?_)
set_option maxRecDepth 100000 in
theorem hushref2_Outs.L1_eq (x0 : List (S32)) (x5 : List (List Int)) (x22 : List (S32)) (x23 : Int) (x24 : Int) : hushref2_Outs.L1 x0 x5 x22 x23 x24 = if x24 < x23 then (if 0 ≤ x24 then (if x24 < (x22.length : Int) then ((hushref2_Weight.F x0 ((rd_T32 x22 x24).f0)).bind fun t201 => (if t201 = 0 then (if x5.length < 5864062014805 then (hushref2_Outs.L1 x0 (x5 ++ [(rd_T32 x22 x24).f0]) x22 x23 (wrap64 (x24 + 1))) else (none)) else (hushref2_Outs.L1 x0 x5 x22 x23 (wrap64 (x24 + 1))))) else (none)) else (none)) else (some x5) := by
  refine LimIs.step' (hushref2_Outs.L1_is x0 x5 x22 x23 x24).1 (b := fun k => if x24 < x23 then (if 0 ≤ x24 then (if x24 < (x22.length : Int) then ((hushref2_Weight.f k x0 ((rd_T32 x22 x24).f0)).bind fun t201 => (if t201 = 0 then (if x5.length < 5864062014805 then (hushref2_Outs.l1 k x0 (x5 ++ [(rd_T32 x22 x24).f0]) x22 x23 (wrap64 (x24 + 1))) else (none)) else (hushref2_Outs.l1 k x0 x5 x22 x23 (wrap64 (x24 + 1))))) else (none)) else (none)) else (some x5)) (fun k => by first | rfl | rw [hushref2_Outs.l1]) ?_
  repeat' first
    | (with_reducible exact hushref2_Weight.F_is _ _)
    | (with_reducible exact hushref2_Outs.L1_is _ _ _ _ _)
    | (with_reducible exact LimIs.const _)
    | (with_reducible refine LimIs.ite ?_ ?_)
    | (with_reducible refine LimIs.bind ?_ (fun _ => ?_))
    | exact hushref2_Weight.F_is _ _
    | exact hushref2_Outs.L1_is _ _ _ _ _
    | exact LimIs.const _
    | refine LimIs.ite ?_ ?_
    | refine LimIs.bind ?_ (fun _ => ?_)
set_option maxRecDepth 100000 in
theorem hushref2_Wrong.F_eq (l0 : List (S32)) : hushref2_Wrong.F l0 = (hushref2_Make.F l0).bind fun bt189 => (if bt189.2 = 0 then ((hushref2_Same.F l0 bt189.1).bind fun t193 => (if t193 = true then (some 0) else (some 2))) else (some bt189.2)) := by
  refine LimIs.out (?_ : LimIs (fun k => (hushref2_Make.f k l0).bind fun bt189 => (if bt189.2 = 0 then ((hushref2_Same.f k l0 bt189.1).bind fun t193 => (if t193 = true then (some 0) else (some 2))) else (some bt189.2))) _)
  repeat' first
    | (with_reducible exact hushref2_Make.F_is _)
    | (with_reducible exact hushref2_Same.F_is _ _)
    | (with_reducible exact LimIs.const _)
    | (with_reducible refine LimIs.ite ?_ ?_)
    | (with_reducible refine LimIs.bind ?_ (fun _ => ?_))
    | exact hushref2_Make.F_is _
    | exact hushref2_Same.F_is _ _
    | exact LimIs.const _
    | refine LimIs.ite ?_ ?_
    | refine LimIs.bind ?_ (fun _ => ?_)
set_option maxRecDepth 100000 in
theorem hushref2_Outs.F_eq (l0 : List (S32)) (l1 : List (S32)) : hushref2_Outs.F l0 l1 = hushref2_Outs.L0 l0 l1 ([] : List (List Int)) l0 (l0.length : Int) 0 := by
  refine LimIs.out (?_ : LimIs (fun k => hushref2_Outs.l0 k l0 l1 ([] : List (List Int)) l0 (l0.length : Int) 0) _)
  repeat' first
    | (with_reducible exact hushref2_Outs.L0_is _ _ _ _ _ _)
    | (with_reducible exact LimIs.const _)
    | (with_reducible refine LimIs.ite ?_ ?_)
    | (with_reducible refine LimIs.bind ?_ (fun _ => ?_))
    | exact hushref2_Outs.L0_is _ _ _ _ _ _
    | exact LimIs.const _
    | refine LimIs.ite ?_ ?_
    | refine LimIs.bind ?_ (fun _ => ?_)
end Go.Proofs.Ytkemhfhmlcljjaa.PD
end
section
namespace Go.Proofs.Ytkemhfhmlcljjaa.DistPure
set_option linter.unusedVariables false
set_option linter.unusedSimpArgs false
open Go.RowKit Go.Proofs.Ytkemhfhmlcljjaa.PD Go.Proofs.YtkemhfhmlcljjaaW.PrintWords Go.Proofs.YtkemhfhmlcljjaaW.PrintLast Go.Proofs.YtkemhfhmlcljjaaW.PrintMore Go.Proofs.YtkemhfhmlcljjaaW.EvKit
instance : DecidableEq S32 := fun p q => decidable_of_iff (p.f1 = q.f1 ∧ p.f0 = q.f0) (by cases p; cases q; simp only [S32.mk.injEq]; exact And.comm)
structure Bd (l : List S32) : Prop where
  len : l.length ≤ 1048576
  out : ∀ p ∈ l, p.f0.length ≤ 1048576
def okP (p : S32) : Bool := smallB p.f0 && (decide (0 ≤ p.f1) && decide (p.f1 ≤ 1073741824))
theorem okP_iff {p : S32} : okP p = true ↔ smallB p.f0 = true ∧ 0 ≤ p.f1 ∧ p.f1 ≤ 1073741824 := by simp [okP]
def makeP (l : List S32) : List S32 × Int := if l.all okP = true then tDone (tMerge (sortP l)) else ([], 3)
theorem all_ok {l : List S32} (h : l.all okP = true) : ∀ p ∈ l, 0 ≤ p.f1 ∧ p.f1 ≤ 1073741824 := fun p hp => (okP_iff.1 (List.all_eq_true.1 h p hp)).2
theorem all_tot {l : List S32} (h : l.all okP = true) (hl : l.length ≤ 1048576) : totOf l ≤ 4611686018427387904 := by
  have := tot_bd (all_ok h)
  omega
theorem tidyF (l : List S32) (hl : l.length ≤ 1048576) (h : l.all okP = true) : dist_tidy.F l = some (tDone (tMerge (sortP l))) := by
  rw [dist_tidy.F_eq, if_pos]
  unfold tGuard
  have := all_tot h hl
  simp only [Bool.and_eq_true, decide_eq_true_eq, List.all_eq_true]
  exact ⟨⟨by omega, fun p hp => (all_ok h p hp).1⟩, this⟩
theorem cloneF (o : List Int) (h : o.length ≤ 1048576) : slices_Clone_int_int.f o = some o := by
  unfold slices_Clone_int_int.f
  rw [if_pos (by omega)]
theorem make_loop (l : List S32) (h : Bd l) : ∀ (n i : Nat), i + n = l.length → (l.take i).all okP = true →
    dist_Make.L0 (l.take i) l (l.length : Int) (i : Int) = some (if (l.drop i).all okP = true then tDone (tMerge (sortP l)) else ([], 3)) := by
  have hl := h.len
  intro n
  induction n with
  | zero =>
    intro i hi ha
    rw [List.take_of_length_le (show l.length ≤ i by omega)] at ha ⊢
    rw [dist_Make.L0_eq, if_neg (by omega), tidyF l h.len ha, Option.bind_some, List.drop_of_length_le (show l.length ≤ i by omega)]
    rfl
  | succ n ih =>
    intro i hi ha
    have hxi : i < l.length := by omega
    have ho := h.out _ (mem_at hxi)
    rw [dist_Make.L0_eq, if_pos (by omega), if_pos (by omega), if_pos (by omega), rd32At hxi, smallF _ ho, Option.bind_some, List.drop_eq_getElem_cons hxi, List.all_cons]
    have e : okP l[i] = (smallB l[i].f0 && (decide (0 ≤ l[i].f1) && decide (l[i].f1 ≤ 1073741824))) := rfl
    cases c : smallB l[i].f0 with
    | false =>
      rw [if_neg (by decide), e, c]
      rfl
    | true =>
      rw [if_pos rfl]
      by_cases c1 : l[i].f1 < 0
      · rw [if_pos c1, if_neg]
        rw [e, decide_eq_false (show ¬ 0 ≤ l[i].f1 by omega)]
        simp
      · rw [if_neg c1]
        by_cases c2 : l[i].f1 > 1073741824
        · rw [if_pos c2, if_neg]
          rw [e, decide_eq_false (show ¬ l[i].f1 ≤ 1073741824 by omega)]
          simp
        · have hok : okP l[i] = true := okP_iff.2 ⟨c, by omega, by omega⟩
          rw [if_neg c2, cloneF _ ho, Option.bind_some, if_pos (by rw [List.length_take]; omega), hok, Bool.true_and, w1 (by omega)]
          have e2 : l.take i ++ [(⟨l[i].f0, l[i].f1⟩ : S32)] = l.take (i + 1) := (take_one hxi).symm
          rw [e2]
          exact ih (i + 1) (by omega) (by rw [take_one hxi, List.all_append, ha]; simp [hok])
theorem makeF1 (l : List S32) (h : Bd l) : dist_Make.F l = some (makeP l) := by
  rw [dist_Make.F_eq]
  exact make_loop l h l.length 0 (by omega) (by simp)
theorem rmake_loop (l : List S32) (h : Bd l) : ∀ (n i : Nat), i + n = l.length → (l.take i).all okP = true →
    hushref2_Make.L0 l l (l.length : Int) (i : Int) = some (if (l.drop i).all okP = true then tDone (tMerge (sortP l)) else ([], 3)) := by
  have hl := h.len
  intro n
  induction n with
  | zero =>
    intro i hi ha
    rw [List.take_of_length_le (show l.length ≤ i by omega)] at ha
    rw [hushref2_Make.L0_eq, if_neg (by omega), rtidyF l h.len h.out (fun p hp => (all_ok ha p hp).1) (all_tot ha h.len), Option.bind_some, List.drop_of_length_le (show l.length ≤ i by omega)]
    rfl
  | succ n ih =>
    intro i hi ha
    have hxi : i < l.length := by omega
    have ho := h.out _ (mem_at hxi)
    rw [hushref2_Make.L0_eq, if_pos (by omega), if_pos (by omega), if_pos (by omega), rd32At hxi, rsmallF _ ho, Option.bind_some, List.drop_eq_getElem_cons hxi, List.all_cons]
    have e : okP l[i] = (smallB l[i].f0 && (decide (0 ≤ l[i].f1) && decide (l[i].f1 ≤ 1073741824))) := rfl
    cases c : smallB l[i].f0 with
    | false =>
      rw [if_neg (by decide), e, c]
      rfl
    | true =>
      rw [if_pos rfl]
      by_cases c1 : l[i].f1 < 0
      · rw [if_pos c1, if_neg]
        rw [e, decide_eq_false (show ¬ 0 ≤ l[i].f1 by omega)]
        simp
      · rw [if_neg c1]
        by_cases c2 : l[i].f1 > 1073741824
        · rw [if_pos c2, if_neg]
          rw [e, decide_eq_false (show ¬ l[i].f1 ≤ 1073741824 by omega)]
          simp
        · have hok : okP l[i] = true := okP_iff.2 ⟨c, by omega, by omega⟩
          rw [if_neg c2, hok, Bool.true_and, w1 (by omega)]
          exact ih (i + 1) (by omega) (by rw [take_one hxi, List.all_append, ha]; simp [hok])
theorem rmakeF1 (l : List S32) (h : Bd l) : hushref2_Make.F l = some (makeP l) := by
  rw [hushref2_Make.F_eq]
  exact rmake_loop l h l.length 0 (by omega) (by simp)
theorem tDone_bd {D : List S32} (h : Bd D) : Bd (tDone D).1 := by
  unfold tDone
  split
  · exact ⟨by simp, by simp⟩
  · split
    · exact ⟨by simp, by simp⟩
    · refine ⟨by simpa using h.len, fun p hp => ?_⟩
      obtain ⟨q, hq, rfl⟩ := List.mem_map.1 hp
      exact h.out q hq
theorem makeP_bd {l : List S32} (h : Bd l) : Bd (makeP l).1 := by
  unfold makeP
  split
  · rename_i c
    have h0 : ∀ p ∈ l, 0 ≤ p.f1 := fun p hp => (all_ok c p hp).1
    refine tDone_bd ⟨?_, fun q hq => ?_⟩
    · have := tMerge_len l
      have := h.len
      omega
    · obtain ⟨p, hp, e, _⟩ := (outs_iff (tidy_canon h0) h0 q.f0).2 ⟨q, hq, rfl⟩
      rw [← e]
      exact h.out p hp
  · exact ⟨by simp, by simp⟩
theorem s32_eq {p q : S32} : p = q ↔ p.f1 = q.f1 ∧ p.f0 = q.f0 := by
  cases p; cases q
  simp only [S32.mk.injEq]
  exact And.comm
theorem rsame_loop (a b : List S32) (ha : Bd a) (hb : Bd b) (hl : a.length = b.length) : ∀ (n i : Nat), i + n = a.length →
    hushref2_Same.L0 a b (a.length : Int) (i : Int) = some (decide (a.drop i = b.drop i)) := by
  have hla := ha.len
  intro n
  induction n with
  | zero =>
    intro i hi
    rw [hushref2_Same.L0_eq, if_neg (by omega), List.drop_of_length_le (show a.length ≤ i by omega), List.drop_of_length_le (show b.length ≤ i by omega)]
    rfl
  | succ n ih =>
    intro i hi
    have h1 : i < a.length := by omega
    have h2 : i < b.length := by omega
    rw [hushref2_Same.L0_eq, if_pos (by omega), if_pos (by omega), if_pos (by omega), if_pos (by omega), rd32At h1, rd32At h2, List.drop_eq_getElem_cons h1, List.drop_eq_getElem_cons h2]
    by_cases c1 : a[i].f1 = b[i].f1
    · rw [if_pos c1, rcmpF _ _ (ha.out _ (mem_at h1)) (hb.out _ (mem_at h2)), Option.bind_some]
      by_cases c2 : a[i].f0 = b[i].f0
      · rw [if_pos (cmpL0.2 c2), w1 (by omega), ih (i + 1) (by omega), show a[i] = b[i] from s32_eq.2 ⟨c1, c2⟩]
        congr 1
        rw [decide_eq_decide]
        exact ⟨fun h => by rw [h], fun h => by injection h⟩
      · rw [if_neg (fun h => c2 (cmpL0.1 h))]
        congr 1
        symm
        rw [decide_eq_false_iff_not]
        intro h
        injection h with h _
        exact c2 (by rw [h])
    · rw [if_neg c1]
      congr 1
      symm
      rw [decide_eq_false_iff_not]
      intro h
      injection h with h _
      exact c1 (by rw [h])
theorem rsameF (a b : List S32) (ha : Bd a) (hb : Bd b) : hushref2_Same.F a b = some (decide (a = b)) := by
  rw [hushref2_Same.F_eq]
  by_cases h : a.length = b.length
  · rw [if_pos (by omega)]
    exact rsame_loop a b ha hb h a.length 0 (by omega)
  · rw [if_neg (by omega)]
    congr 1
    symm
    rw [decide_eq_false_iff_not]
    intro e
    exact h (by rw [e])
theorem same_loop (a b : List S32) (ha : Bd a) (hb : Bd b) (hl : a.length = b.length) : ∀ (n i : Nat), i + n = a.length →
    api_Part.L0 b a (a.length : Int) (i : Int) = some (decide (a.drop i = b.drop i)) := by
  have hla := ha.len
  intro n
  induction n with
  | zero =>
    intro i hi
    rw [api_Part.L0_eq, if_neg (by omega), List.drop_of_length_le (show a.length ≤ i by omega), List.drop_of_length_le (show b.length ≤ i by omega)]
    rfl
  | succ n ih =>
    intro i hi
    have h1 : i < a.length := by omega
    have h2 : i < b.length := by omega
    rw [api_Part.L0_eq, if_pos (by omega), if_pos (by omega), if_pos (by omega), if_pos (by omega), rd32At h1, rd32At h2, List.drop_eq_getElem_cons h1, List.drop_eq_getElem_cons h2, dist_same_1.F_eq]
    by_cases c1 : a[i].f1 = b[i].f1
    · rw [if_pos c1, eqF _ _ (ha.out _ (mem_at h1)), Option.bind_some, Option.bind_some]
      by_cases c2 : a[i].f0 = b[i].f0
      · rw [if_pos (decide_eq_true c2), w1 (by omega), ih (i + 1) (by omega), show a[i] = b[i] from s32_eq.2 ⟨c1, c2⟩]
        congr 1
        rw [decide_eq_decide]
        exact ⟨fun h => by rw [h], fun h => by injection h⟩
      · rw [if_neg (by simpa using c2)]
        congr 1
        symm
        rw [decide_eq_false_iff_not]
        intro h
        injection h with h _
        exact c2 (by rw [h])
    · rw [if_neg c1, Option.bind_some, if_neg (by decide)]
      congr 1
      symm
      rw [decide_eq_false_iff_not]
      intro h
      injection h with h _
      exact c1 (by rw [h])
theorem sameF (a b : List S32) (ha : Bd a) (hb : Bd b) : dist_same.F a b = some (decide (a = b)) := by
  rw [dist_same.F_eq, api_Part.F_eq]
  by_cases h : a.length = b.length
  · rw [if_pos (by omega)]
    rw [show (0 : Int) = ((0 : Nat) : Int) from rfl, same_loop a b ha hb h a.length 0 (by omega)]
    rfl
  · rw [if_neg (by omega), Option.bind_some]
    congr 1
    symm
    rw [decide_eq_false_iff_not]
    intro e
    exact h (by rw [e])
def wrongP (d : List S32) : Int := if (makeP d).2 = 0 then (if d = (makeP d).1 then 0 else 2) else (makeP d).2
theorem wrongF (d : List S32) (h : Bd d) : dist_Wrong.F d = some (wrongP d) := by
  rw [dist_Wrong.F_eq, makeF1 d h, Option.bind_some]
  unfold wrongP
  by_cases c : (makeP d).2 = 0
  · rw [if_pos c, if_pos c, sameF _ _ h (makeP_bd h), Option.bind_some]
    by_cases c2 : d = (makeP d).1
    · rw [if_pos (decide_eq_true c2), if_pos c2, c]
    · rw [if_neg (by simpa using c2), if_neg c2]
  · rw [if_neg c, if_neg c]
theorem rwrongF (d : List S32) (h : Bd d) : hushref2_Wrong.F d = some (wrongP d) := by
  rw [hushref2_Wrong.F_eq, rmakeF1 d h, Option.bind_some]
  unfold wrongP
  by_cases c : (makeP d).2 = 0
  · rw [if_pos c, if_pos c, rsameF _ _ h (makeP_bd h), Option.bind_some]
    by_cases c2 : d = (makeP d).1
    · rw [if_pos (decide_eq_true c2), if_pos c2]
    · rw [if_neg (by simpa using c2), if_neg c2]
  · rw [if_neg c, if_neg c]
structure Right (d : List S32) : Prop where
  ok : d.all okP = true
  st : Strict d
  pos : 0 < totOf d
  few : totOf d ≤ 1073741824
  much : d.length ≤ 4096
theorem div_sum (g : Int) (hg : 0 < g) : ∀ (D : List S32), totOf (D.map (fun p => (⟨p.f0, p.f1 / g⟩ : S32))) ≤ totOf D / g
  | [] => by rw [List.map_nil, totOf_nil, Int.zero_ediv]; exact Int.le_refl 0
  | p :: D => by
    have ih := div_sum g hg D
    rw [List.map_cons, totOf_cons, totOf_cons]
    have h1 := Int.ediv_mul_le p.f1 (show g ≠ 0 by omega)
    have h2 := Int.ediv_mul_le (totOf D) (show g ≠ 0 by omega)
    have h3 : p.f1 / g + totOf D / g ≤ (p.f1 + totOf D) / g := by
      rw [Int.le_ediv_iff_mul_le hg, Int.add_mul]
      omega
    show p.f1 / g + _ ≤ _
    omega
theorem right_of {d : List S32} (h : wrongP d = 0) : Right d := by
  unfold wrongP at h
  by_cases c : (makeP d).2 = 0
  · rw [if_pos c] at h
    by_cases c2 : d = (makeP d).1
    · unfold makeP at c c2
      by_cases ho : d.all okP = true
      · rw [if_pos ho] at c c2
        have h0 : ∀ p ∈ d, 0 ≤ p.f1 := fun p hp => (all_ok ho p hp).1
        have hc := tidy_canon h0
        have htot := tMerge_tot d
        unfold tDone at c c2
        by_cases e1 : tMerge (sortP d) = []
        · rw [if_pos e1] at c; cases c
        · rw [if_neg e1] at c c2
          have hg := gOf_pos hc.pos e1
          by_cases e2 : totOf (tMerge (sortP d)) / (gOf (tMerge (sortP d)) : Int) > 1073741824 ∨ (tMerge (sortP d)).length > 4096
          · rw [if_pos e2] at c; cases c
          · rw [if_neg e2] at c2
            dsimp only at c2
            have hs := div_sum (gOf (tMerge (sortP d)) : Int) (by omega) (tMerge (sortP d))
            have htot2 : 0 < totOf (tMerge (sortP d)) := by
              cases hD : tMerge (sortP d) with
              | nil => exact absurd hD e1
              | cons q D =>
                have hp := hc.pos q (by rw [hD]; simp)
                have h2 := one_le (l := tMerge (sortP d)) (fun p hp => Int.le_of_lt (hc.pos p hp)) (p := q) (by rw [hD]; simp)
                rw [hD] at h2
                omega
            refine ⟨ho, ?_, by omega, ?_, ?_⟩
            · rw [c2]
              unfold Strict
              rw [List.pairwise_map]
              exact hc.st
            · rw [← c2] at hs
              omega
            · have := congrArg List.length c2
              rw [List.length_map] at this
              omega
      · rw [if_neg ho] at c; cases c
    · rw [if_neg c2] at h; cases h
  · rw [if_neg c] at h; exact absurd h c
end Go.Proofs.Ytkemhfhmlcljjaa.DistPure
end
section
namespace Go.Proofs.Ytkemhfhmlcljjaa.DistPure
set_option linter.unusedVariables false
set_option linter.unusedSimpArgs false
open Go.RowKit Go.Proofs.Ytkemhfhmlcljjaa.PD Go.Proofs.YtkemhfhmlcljjaaW.PrintWords Go.Proofs.YtkemhfhmlcljjaaW.PrintLast Go.Proofs.YtkemhfhmlcljjaaW.PrintMore Go.Proofs.YtkemhfhmlcljjaaW.EvKit
theorem gOf_dvd_go : ∀ (d : List S32) (g : Nat), d.foldl (fun g p => Nat.gcd p.f1.toNat g) g ∣ g ∧ ∀ p ∈ d, d.foldl (fun g p => Nat.gcd p.f1.toNat g) g ∣ p.f1.toNat
  | [], g => ⟨Nat.dvd_refl _, fun p hp => by cases hp⟩
  | q :: d, g => by
    rw [List.foldl_cons]
    obtain ⟨h1, h2⟩ := gOf_dvd_go d (Nat.gcd q.f1.toNat g)
    refine ⟨Nat.dvd_trans h1 (Nat.gcd_dvd_right _ _), fun p hp => ?_⟩
    rcases List.mem_cons.1 hp with e | e
    · rw [e]; exact Nat.dvd_trans h1 (Nat.gcd_dvd_left _ _)
    · exact h2 p e
theorem gOf_dvd {d : List S32} {p : S32} (h : p ∈ d) : gOf d ∣ p.f1.toNat := (gOf_dvd_go d 0).2 p h
theorem gOf_max_go : ∀ (d : List S32) (g n : Nat), n ∣ g → (∀ p ∈ d, n ∣ p.f1.toNat) → n ∣ d.foldl (fun g p => Nat.gcd p.f1.toNat g) g
  | [], g, n, h, _ => h
  | q :: d, g, n, h, h0 => gOf_max_go d _ n (Nat.dvd_gcd (h0 q (by simp)) h) (fun p hp => h0 p (by simp [hp]))
theorem gOf_max {d : List S32} {n : Nat} (h : ∀ p ∈ d, n ∣ p.f1.toNat) : n ∣ gOf d := gOf_max_go d 0 n (Nat.dvd_zero n) h
theorem right_form {d : List S32} (h : wrongP d = 0) : ∃ D : List S32, (∀ p ∈ D, 0 < p.f1) ∧ D ≠ [] ∧ d = D.map (fun p => (⟨p.f0, p.f1 / (gOf D : Int)⟩ : S32)) := by
  unfold wrongP at h
  by_cases c : (makeP d).2 = 0
  · rw [if_pos c] at h
    by_cases c2 : d = (makeP d).1
    · unfold makeP at c c2
      by_cases ho : d.all okP = true
      · rw [if_pos ho] at c c2
        have hc := tidy_canon (fun p hp => (all_ok ho p hp).1)
        unfold tDone at c c2
        by_cases e1 : tMerge (sortP d) = []
        · rw [if_pos e1] at c; cases c
        · rw [if_neg e1] at c c2
          by_cases e2 : totOf (tMerge (sortP d)) / (gOf (tMerge (sortP d)) : Int) > 1073741824 ∨ (tMerge (sortP d)).length > 4096
          · rw [if_pos e2] at c; cases c
          · rw [if_neg e2] at c2
            exact ⟨_, hc.pos, e1, c2⟩
      · rw [if_neg ho] at c; cases c
    · rw [if_neg c2] at h; cases h
  · rw [if_neg c] at h; exact absurd h c
theorem div_pos' {p : Int} {g : Nat} (hp : 0 < p) (hg : 0 < g) (hd : g ∣ p.toNat) : ∃ m : Nat, 0 < m ∧ p / (g : Int) = (m : Int) ∧ p.toNat = g * m := by
  obtain ⟨m, hm⟩ := hd
  have e : p = ((g * m : Nat) : Int) := by rw [← hm]; omega
  refine ⟨m, ?_, ?_, hm⟩
  · rcases Nat.eq_zero_or_pos m with h | h
    · rw [h, Nat.mul_zero] at hm; omega
    · exact h
  · rw [e, Int.natCast_mul, Int.mul_ediv_cancel_left _ (by omega)]
theorem right_more {d : List S32} (h : wrongP d = 0) : (∀ p ∈ d, 0 < p.f1) ∧ gOf d = 1 := by
  obtain ⟨D, h0, hn, rfl⟩ := right_form h
  have hg := gOf_pos h0 hn
  have key : ∀ p ∈ D, ∃ m : Nat, 0 < m ∧ p.f1 / (gOf D : Int) = (m : Int) ∧ p.f1.toNat = gOf D * m := fun p hp => div_pos' (h0 p hp) hg (gOf_dvd hp)
  constructor
  · intro p hp
    obtain ⟨q, hq, rfl⟩ := List.mem_map.1 hp
    obtain ⟨m, h1, h2, _⟩ := key q hq
    show 0 < q.f1 / (gOf D : Int)
    omega
  · have h1 : gOf D * gOf (D.map (fun p => (⟨p.f0, p.f1 / (gOf D : Int)⟩ : S32))) ∣ gOf D := gOf_max (fun q hq => by
      obtain ⟨m, _, h2, h3⟩ := key q hq
      have h4 := gOf_dvd (List.mem_map.2 ⟨q, hq, rfl⟩ : (⟨q.f0, q.f1 / (gOf D : Int)⟩ : S32) ∈ D.map (fun p => (⟨p.f0, p.f1 / (gOf D : Int)⟩ : S32)))
      rw [h3]
      refine Nat.mul_dvd_mul_left _ ?_
      have h5 : (q.f1 / (gOf D : Int)).toNat = m := by rw [h2]; omega
      rw [← h5]
      exact h4)
    have h2 := Nat.le_of_dvd hg h1
    have h3 : 0 < gOf (D.map (fun p => (⟨p.f0, p.f1 / (gOf D : Int)⟩ : S32))) := by
      refine gOf_pos (fun p hp => ?_) (by simpa using hn)
      obtain ⟨q, hq, rfl⟩ := List.mem_map.1 hp
      obtain ⟨m, h1, h2, _⟩ := key q hq
      show 0 < q.f1 / (gOf D : Int)
      omega
    generalize gOf (D.map (fun p => (⟨p.f0, p.f1 / (gOf D : Int)⟩ : S32))) = x at *
    rcases Nat.lt_or_ge 1 x with c | c
    · have := Nat.mul_lt_mul_of_pos_left c hg
      omega
    · omega
def outsL (a b : List S32) : List (List Int) := a.map (·.f0) ++ (b.filter (fun p => decide (wOf a p.f0 = 0))).map (·.f0)
def pw (a b : List S32) (o : List Int) : Int × Int := (wOf a o, wOf b o)
theorem wOf_skip {p : S32} {a : List S32} {o : List Int} (h : p.f0 ≠ o) : wOf (p :: a) o = wOf a o := by rw [wOf_cons, if_neg h, Int.zero_add]
theorem wOf_hit {p : S32} {a : List S32} (h : Strict (p :: a)) : wOf (p :: a) p.f0 = p.f1 := by rw [wOf_cons, if_pos rfl, strict_head h, Int.add_zero]
theorem lt_ne {a b : List Int} (h : cmpL a b < 0) : a ≠ b := fun e => by rw [e, cmpL_self] at h; exact absurd h (Int.lt_irrefl 0)
theorem below_none {o : List Int} {b : List S32} (h : ∀ q ∈ b, cmpL o q.f0 < 0) : wOf b o = 0 := wOf_none _ _ (fun q hq e => lt_ne (h q hq) e.symm)
theorem outs_mem {a b : List S32} {o : List Int} (h : o ∈ outsL a b) : (∃ p ∈ a, p.f0 = o) ∨ (∃ q ∈ b, q.f0 = o) := by
  rcases List.mem_append.1 h with h | h
  · exact .inl (List.mem_map.1 h)
  · obtain ⟨q, hq, e⟩ := List.mem_map.1 h
    exact .inr ⟨q, (List.mem_filter.1 hq).1, e⟩
theorem filter_skip {p : S32} {a : List S32} : ∀ {b : List S32}, (∀ q ∈ b, p.f0 ≠ q.f0) → b.filter (fun q => decide (wOf (p :: a) q.f0 = 0)) = b.filter (fun q => decide (wOf a q.f0 = 0)) := fun h =>
  List.filter_congr (fun q hq => by rw [wOf_skip (h q hq)])
theorem side_l {p : S32} {a b : List S32} (hs : Strict (p :: a)) (hb : ∀ q ∈ b, cmpL p.f0 q.f0 < 0) : (outsL (p :: a) b).map (pw (p :: a) b) = (p.f1, 0) :: (outsL a b).map (pw a b) := by
  have hne : ∀ q ∈ b, p.f0 ≠ q.f0 := fun q hq => lt_ne (hb q hq)
  unfold outsL
  rw [filter_skip hne, List.map_cons, List.cons_append, List.map_cons]
  congr 1
  · unfold pw; rw [wOf_hit hs, below_none hb]
  · refine List.map_congr_left (fun o ho => ?_)
    have ho' : p.f0 ≠ o := by
      rcases outs_mem ho with ⟨q, hq, e⟩ | ⟨q, hq, e⟩
      · rw [← e]; exact lt_ne ((List.pairwise_cons.1 hs).1 q hq)
      · rw [← e]; exact hne q hq
    unfold pw; rw [wOf_skip ho']
theorem side_r {q : S32} {a b : List S32} (hs : Strict (q :: b)) (ha : ∀ p ∈ a, cmpL q.f0 p.f0 < 0) : ((outsL a (q :: b)).map (pw a (q :: b))).Perm ((0, q.f1) :: (outsL a b).map (pw a b)) := by
  have e0 : wOf a q.f0 = 0 := below_none ha
  have e1 : outsL a (q :: b) = a.map (·.f0) ++ q.f0 :: (b.filter (fun p => decide (wOf a p.f0 = 0))).map (·.f0) := by
    unfold outsL; rw [List.filter_cons_of_pos (by simpa using e0), List.map_cons]
  rw [e1]
  refine ((List.perm_middle (l₁ := a.map (·.f0))).map _).trans ?_
  rw [List.map_cons]
  have e2 : pw a (q :: b) q.f0 = (0, q.f1) := by unfold pw; rw [e0, wOf_hit hs]
  rw [e2]
  refine List.Perm.cons _ (List.Perm.of_eq ?_)
  refine List.map_congr_left (fun o ho => ?_)
  have ho' : q.f0 ≠ o := by
    rcases outs_mem (a := a) (b := b) ho with ⟨p, hp, e⟩ | ⟨p, hp, e⟩
    · rw [← e]; exact lt_ne (ha p hp)
    · rw [← e]; exact lt_ne ((List.pairwise_cons.1 hs).1 p hp)
  unfold pw; rw [wOf_skip ho']
theorem side_e {p q : S32} {a b : List S32} (hp : 0 < p.f1) (hsa : Strict (p :: a)) (hsb : Strict (q :: b)) (e : p.f0 = q.f0) : (outsL (p :: a) (q :: b)).map (pw (p :: a) (q :: b)) = (p.f1, q.f1) :: (outsL a b).map (pw a b) := by
  have hne : ∀ r ∈ b, p.f0 ≠ r.f0 := fun r hr => by rw [e]; exact lt_ne ((List.pairwise_cons.1 hsb).1 r hr)
  have h1 : wOf (p :: a) q.f0 = p.f1 := by rw [← e]; exact wOf_hit hsa
  unfold outsL
  rw [List.filter_cons_of_neg (by rw [h1]; simp; omega), filter_skip hne, List.map_cons, List.cons_append, List.map_cons]
  congr 1
  · unfold pw; rw [wOf_hit hsa, e, wOf_hit hsb]
  · refine List.map_congr_left (fun o ho => ?_)
    have ho' : p.f0 ≠ o := by
      rcases outs_mem (a := a) (b := b) ho with ⟨r, hr, e2⟩ | ⟨r, hr, e2⟩
      · rw [← e2]; exact lt_ne ((List.pairwise_cons.1 hsa).1 r hr)
      · rw [← e2]; exact hne r hr
    unfold pw; rw [wOf_skip ho', wOf_skip (by rw [← e]; exact ho')]
theorem strict_tail {p : S32} {a : List S32} (h : Strict (p :: a)) : Strict a := (List.pairwise_cons.1 h).2
theorem pairs_perm : ∀ (n : Nat) (a b : List S32), a.length + b.length ≤ n → Strict a → Strict b → (∀ p ∈ a, 0 < p.f1) → (pairsL a b).Perm ((outsL a b).map (pw a b))
  | n, [], [], _, _, _, _ => by rw [pairs_nil]; exact List.Perm.refl _
  | 0, _ :: _, _, h, _, _, _ => by simp at h
  | 0, [], _ :: _, h, _, _, _ => by simp at h
  | n + 1, [], q :: b, h, ha, hb, h0 => by
    rw [pairs_r]
    exact (List.Perm.cons _ (pairs_perm n [] b (by simp at h ⊢; omega) ha (strict_tail hb) h0)).trans (side_r hb (fun p hp => by cases hp)).symm
  | n + 1, p :: a, [], h, ha, hb, h0 => by
    rw [pairs_l, side_l ha (fun q hq => by cases hq)]
    exact List.Perm.cons _ (pairs_perm n a [] (by simp at h ⊢; omega) (strict_tail ha) hb (fun x hx => h0 x (by simp [hx])))
  | n + 1, p :: a, q :: b, h, ha, hb, h0 => by
    by_cases h1 : cmpL p.f0 q.f0 < 0
    · rw [pairs_lt _ _ h1, side_l ha (fun r hr => by
        rcases List.mem_cons.1 hr with c | c
        · rw [c]; exact h1
        · exact cmpL_trans _ _ _ h1 ((List.pairwise_cons.1 hb).1 r c))]
      exact List.Perm.cons _ (pairs_perm n a (q :: b) (by simp at h ⊢; omega) (strict_tail ha) hb (fun x hx => h0 x (by simp [hx])))
    · by_cases h2 : cmpL p.f0 q.f0 > 0
      · rw [pairs_gt _ _ h2]
        have h3 : cmpL q.f0 p.f0 < 0 := by have := cmpL_swap p.f0 q.f0; omega
        exact (List.Perm.cons _ (pairs_perm n (p :: a) b (by simp at h ⊢; omega) ha (strict_tail hb) h0)).trans (side_r hb (fun r hr => by
          rcases List.mem_cons.1 hr with c | c
          · rw [c]; exact h3
          · exact cmpL_trans _ _ _ h3 ((List.pairwise_cons.1 ha).1 r c))).symm
      · rw [pairs_eq _ _ (by omega), side_e (h0 p (by simp)) ha hb (cmpL_eq _ _ (by omega))]
        exact List.Perm.cons _ (pairs_perm n a b (by simp at h ⊢; omega) (strict_tail ha) (strict_tail hb) (fun x hx => h0 x (by simp [hx])))
theorem pairs_perm' {a b : List S32} (ha : Strict a) (hb : Strict b) (h0 : ∀ p ∈ a, 0 < p.f1) : (pairsL a b).Perm ((outsL a b).map (pw a b)) := pairs_perm _ a b (Nat.le_refl _) ha hb h0
end Go.Proofs.Ytkemhfhmlcljjaa.DistPure
end
section
namespace Go.Proofs.Ytkemhfhmlcljjaa.DistPure
set_option linter.unusedVariables false
set_option linter.unusedSimpArgs false
open Go.RowKit Go.Proofs.Ytkemhfhmlcljjaa.PD Go.Proofs.YtkemhfhmlcljjaaW.PrintWords Go.Proofs.YtkemhfhmlcljjaaW.PrintLast Go.Proofs.YtkemhfhmlcljjaaW.PrintMore Go.Proofs.YtkemhfhmlcljjaaW.EvKit
def le2 (f g : Nat × Nat) : Prop := f.1 * g.2 ≤ g.1 * f.2
def pos2 (f : Nat × Nat) : Prop := 1 ≤ f.1 ∧ 1 ≤ f.2
theorem le2_refl (f : Nat × Nat) : le2 f f := Nat.le_refl _
theorem le2_trans {f g h : Nat × Nat} (hg : 1 ≤ g.2) (h1 : le2 f g) (h2 : le2 g h) : le2 f h := by
  unfold le2 at *
  have a : f.1 * g.2 * h.2 ≤ g.1 * f.2 * h.2 := Nat.mul_le_mul_right _ h1
  have b : g.1 * h.2 * f.2 ≤ h.1 * g.2 * f.2 := Nat.mul_le_mul_right _ h2
  have c : f.1 * h.2 * g.2 ≤ h.1 * f.2 * g.2 := by
    calc f.1 * h.2 * g.2 = f.1 * g.2 * h.2 := by rw [Nat.mul_assoc, Nat.mul_comm h.2, ← Nat.mul_assoc]
      _ ≤ g.1 * f.2 * h.2 := a
      _ = g.1 * h.2 * f.2 := by rw [Nat.mul_assoc, Nat.mul_comm f.2, ← Nat.mul_assoc]
      _ ≤ h.1 * g.2 * f.2 := b
      _ = h.1 * f.2 * g.2 := by rw [Nat.mul_assoc, Nat.mul_comm g.2, ← Nat.mul_assoc]
  exact Nat.le_of_mul_le_mul_right c hg
structure Mx (s : Nat × Nat) (F : List (Nat × Nat)) : Prop where
  pos : pos2 s
  one : le2 (1, 1) s
  ub : ∀ f ∈ F, le2 f s
  got : le2 s (1, 1) ∨ ∃ f ∈ F, le2 s f
theorem Mx.start : Mx (1, 1) [] := ⟨⟨Nat.le_refl _, Nat.le_refl _⟩, le2_refl _, fun f hf => (by cases hf), .inl (le2_refl _)⟩
theorem Mx.keep {s f : Nat × Nat} {F : List (Nat × Nat)} (h : Mx s F) (hf : le2 f s) : Mx s (F ++ [f]) :=
  ⟨h.pos, h.one, fun g hg => by
    rcases List.mem_append.1 hg with hg | hg
    · exact h.ub g hg
    · rw [List.mem_singleton.1 hg]; exact hf, by
    rcases h.got with h | ⟨g, hg, h⟩
    · exact .inl h
    · exact .inr ⟨g, by simp [hg], h⟩⟩
theorem Mx.take {s f t : Nat × Nat} {F : List (Nat × Nat)} (h : Mx s F) (ht : pos2 t) (hf : le2 s f) (h1 : le2 f t) (h2 : le2 t f) (hfp : pos2 f) : Mx t (F ++ [f]) :=
  ⟨ht, le2_trans hfp.2 (le2_trans h.pos.2 h.one hf) h1, fun g hg => by
    rcases List.mem_append.1 hg with hg | hg
    · exact le2_trans hfp.2 (le2_trans h.pos.2 (h.ub g hg) hf) h1
    · rw [List.mem_singleton.1 hg]; exact h1, .inr ⟨f, by simp, h2⟩⟩
theorem Mx.le {s t : Nat × Nat} {F G : List (Nat × Nat)} (h : Mx s F) (k : Mx t G) (hF : ∀ f ∈ F, pos2 f ∧ ∃ g ∈ G, pos2 g ∧ le2 f g) : le2 s t := by
  rcases h.got with c | ⟨f, hf, c⟩
  · exact le2_trans (Nat.le_refl 1) c k.one
  · obtain ⟨h1, g, hg, h2, h3⟩ := hF f hf
    exact le2_trans h1.2 c (le2_trans h2.2 h3 (k.ub g hg))
theorem red_eq {s t : Nat × Nat} (hs : pos2 s) (ht : pos2 t) (hc : Nat.gcd s.1 s.2 = 1) (h : s.1 * t.2 = t.1 * s.2) : t.1 / Nat.gcd t.1 t.2 = s.1 ∧ t.2 / Nat.gcd t.1 t.2 = s.2 ∧ 1 ≤ Nat.gcd t.1 t.2 := by
  have d1 : s.1 ∣ t.1 * s.2 := ⟨t.2, h.symm⟩
  have d2 : s.1 ∣ t.1 := Nat.Coprime.dvd_of_dvd_mul_right hc d1
  obtain ⟨m, hm⟩ := d2
  have hm0 : 0 < m := by
    rcases Nat.eq_zero_or_pos m with e | e
    · rw [e, Nat.mul_zero] at hm; have := ht.1; omega
    · exact e
  have e2 : t.2 = s.2 * m := by
    rw [hm, Nat.mul_assoc] at h
    have := Nat.eq_of_mul_eq_mul_left hs.1 h
    rw [this, Nat.mul_comm]
  have hg : Nat.gcd t.1 t.2 = m := by rw [hm, e2, Nat.gcd_mul_right, hc, Nat.one_mul]
  rw [hg, hm, e2]
  exact ⟨Nat.mul_div_cancel _ hm0, Nat.mul_div_cancel _ hm0, hm0⟩
def hl (ta tb : Nat) (x : Int × Int) : Nat × Nat := (fHi ta tb x, fLo ta tb x)
def uv (ta tb : Nat) (x : Int × Int) : Nat × Nat := (x.1.toNat * tb, x.2.toNat * ta)
theorem div_same {a g : Nat} (h : g ∣ a) : a / g * g = a := Nat.div_mul_cancel h
theorem UV_eq {ta tb : Nat} {x : Int × Int} (hg : 1 ≤ fG ta tb x) : le2 (hl ta tb x) (fU ta tb x, fV ta tb x) ∧ le2 (fU ta tb x, fV ta tb x) (hl ta tb x) ∧ Nat.gcd (fU ta tb x) (fV ta tb x) = 1 := by
  have d1 : fG ta tb x ∣ fHi ta tb x := Nat.gcd_dvd_right _ _
  have d2 : fG ta tb x ∣ fLo ta tb x := Nat.gcd_dvd_left _ _
  have e1 : fU ta tb x * fG ta tb x = fHi ta tb x := div_same d1
  have e2 : fV ta tb x * fG ta tb x = fLo ta tb x := div_same d2
  have e : fHi ta tb x * fV ta tb x = fU ta tb x * fLo ta tb x := by rw [← e1, ← e2, Nat.mul_assoc, Nat.mul_comm (fG ta tb x)]
  refine ⟨Nat.le_of_eq e, Nat.le_of_eq e.symm, ?_⟩
  unfold fU fV
  rw [Nat.gcd_comm]
  exact Nat.coprime_div_gcd_div_gcd (m := fLo ta tb x) (n := fHi ta tb x) hg
theorem fStep_mx {ta tb : Nat} (ha : 1 ≤ ta) (ha' : ta ≤ 1073741824) (hb : 1 ≤ tb) (hb' : tb ≤ 1073741824) {x : Int × Int} (h : pOk x) (h0 : pNo x) {s : Nat × Nat} {F : List (Nat × Nat)} (hm : Mx s F) (hc : Nat.gcd s.1 s.2 = 1) :
    Mx (fStep ta tb s x) (F ++ [hl ta tb x]) ∧ Nat.gcd (fStep ta tb s x).1 (fStep ta tb s x).2 = 1 := by
  obtain ⟨b1, b2, b3, b4, b5, c1, c2, c3, c4⟩ := f_bd ha ha' hb hb' h h0
  obtain ⟨e1, e2, e3⟩ := UV_eq b4
  have hp : pos2 (hl ta tb x) := ⟨Nat.le_trans b1 b2, b1⟩
  have hq : pos2 (fU ta tb x, fV ta tb x) := ⟨c1, c3⟩
  unfold fStep
  by_cases c : fB ta tb s x = true
  · rw [if_pos c]
    have c' : s.1 * fV ta tb x < fU ta tb x * s.2 := of_decide_eq_true c
    exact ⟨hm.take hq (le2_trans (g := (fU ta tb x, fV ta tb x)) hq.2 (Nat.le_of_lt c') e2) e1 e2 hp, e3⟩
  · rw [if_neg c]
    have c' : ¬ s.1 * fV ta tb x < fU ta tb x * s.2 := fun h => c (decide_eq_true h)
    exact ⟨hm.keep (le2_trans (g := (fU ta tb x, fV ta tb x)) hq.2 e1 (Nat.le_of_not_lt c')), hc⟩
theorem fold_mx {ta tb : Nat} (ha : 1 ≤ ta) (ha' : ta ≤ 1073741824) (hb : 1 ≤ tb) (hb' : tb ≤ 1073741824) : ∀ (L : List (Int × Int)) (s : Nat × Nat) (F : List (Nat × Nat)), (∀ x ∈ L, pOk x ∧ pNo x) → Mx s F → Nat.gcd s.1 s.2 = 1 →
    Mx (L.foldl (fStep ta tb) s) (F ++ L.map (hl ta tb)) ∧ Nat.gcd (L.foldl (fStep ta tb) s).1 (L.foldl (fStep ta tb) s).2 = 1
  | [], s, F, _, h, hc => by rw [List.map_nil, List.append_nil]; exact ⟨h, hc⟩
  | x :: L, s, F, h0, h, hc => by
    obtain ⟨h1, h2⟩ := fStep_mx ha ha' hb hb' (h0 x (by simp)).1 (h0 x (by simp)).2 h hc
    have := fold_mx ha ha' hb hb' L _ _ (fun y hy => h0 y (by simp [hy])) h1 h2
    rw [List.foldl_cons, List.map_cons]
    rw [List.append_assoc] at this
    exact this
theorem fFold_mx {ta tb : Nat} (ha : 1 ≤ ta) (ha' : ta ≤ 1073741824) (hb : 1 ≤ tb) (hb' : tb ≤ 1073741824) {L : List (Int × Int)} (h0 : ∀ x ∈ L, pOk x ∧ pNo x) : Mx (fFold ta tb L) (L.map (hl ta tb)) ∧ Nat.gcd (fFold ta tb L).1 (fFold ta tb L).2 = 1 := by
  have := fold_mx ha ha' hb hb' L (1, 1) [] h0 Mx.start rfl
  rw [List.nil_append] at this
  exact this
def ins (s f : Nat × Nat) : Nat × Nat := if s.1 * f.2 < f.1 * s.2 then f else s
theorem ins_mx {s f : Nat × Nat} {F : List (Nat × Nat)} (h : Mx s F) (hf : pos2 f) : Mx (ins s f) (F ++ [f]) := by
  unfold ins
  by_cases c : s.1 * f.2 < f.1 * s.2
  · rw [if_pos c]; exact h.take hf (Nat.le_of_lt c) (le2_refl _) (le2_refl _) hf
  · rw [if_neg c]; exact h.keep (Nat.le_of_not_lt c)
def rStep (ta tb : Nat) (s : Nat × Nat) (x : Int × Int) : Nat × Nat := ins (ins s (uv ta tb x)) (uv ta tb x).swap
def two (ta tb : Nat) (x : Int × Int) : List (Nat × Nat) := [uv ta tb x, (uv ta tb x).swap]
theorem uv_bd {ta tb : Nat} (ha : 1 ≤ ta) (ha' : ta ≤ 1073741824) (hb : 1 ≤ tb) (hb' : tb ≤ 1073741824) {x : Int × Int} (h : pOk x) (h0 : pNo x) : sOk (uv ta tb x) := by
  obtain ⟨h1, h2, h3, h4⟩ := h
  obtain ⟨n1, n2⟩ := h0
  have m1 := p_mul (a := x.1.toNat) (t := tb) (by omega) (by omega) hb hb'
  have m2 := p_mul (a := x.2.toNat) (t := ta) (by omega) (by omega) ha ha'
  exact ⟨m1.1, m1.2, m2.1, m2.2⟩
theorem rStep_mx {ta tb : Nat} {x : Int × Int} (h : pos2 (uv ta tb x)) {s : Nat × Nat} {F : List (Nat × Nat)} (hm : Mx s F) : Mx (rStep ta tb s x) (F ++ two ta tb x) := by
  have h2 := ins_mx (ins_mx hm h) (f := (uv ta tb x).swap) ⟨h.2, h.1⟩
  rw [List.append_assoc] at h2
  exact h2
theorem rfold_mx {ta tb : Nat} : ∀ (L : List (Int × Int)) (s : Nat × Nat) (F : List (Nat × Nat)), (∀ x ∈ L, pos2 (uv ta tb x)) → Mx s F → Mx (L.foldl (rStep ta tb) s) (F ++ L.flatMap (two ta tb))
  | [], s, F, _, h => by rw [List.flatMap_nil, List.append_nil]; exact h
  | x :: L, s, F, h0, h => by
    have := rfold_mx L _ _ (fun y hy => h0 y (by simp [hy])) (rStep_mx (h0 x (by simp)) h)
    rw [List.foldl_cons, List.flatMap_cons]
    rw [List.append_assoc] at this
    exact this
theorem hl_uv (ta tb : Nat) (x : Int × Int) : hl ta tb x = uv ta tb x ∨ hl ta tb x = (uv ta tb x).swap := by
  unfold hl uv fHi fLo
  rcases Nat.le_total (x.1.toNat * tb) (x.2.toNat * ta) with c | c
  · right; rw [Nat.max_eq_right c, Nat.min_eq_left c]; rfl
  · left; rw [Nat.max_eq_left c, Nat.min_eq_right c]
theorem uv_hl (ta tb : Nat) (x : Int × Int) : le2 (uv ta tb x) (hl ta tb x) ∧ le2 (uv ta tb x).swap (hl ta tb x) := by
  unfold le2 hl uv fHi fLo Prod.swap
  dsimp only
  generalize x.1.toNat * tb = u
  generalize x.2.toNat * ta = v
  rcases Nat.le_total u v with c | c
  · rw [Nat.max_eq_right c, Nat.min_eq_left c]
    exact ⟨Nat.mul_le_mul c c, Nat.le_refl _⟩
  · rw [Nat.max_eq_left c, Nat.min_eq_right c]
    exact ⟨Nat.le_refl _, Nat.mul_le_mul c c⟩
theorem both_mx {ta tb : Nat} (ha : 1 ≤ ta) (ha' : ta ≤ 1073741824) (hb : 1 ≤ tb) (hb' : tb ≤ 1073741824) {L M : List (Int × Int)} (hp : L.Perm M) (h0 : ∀ x ∈ L, pOk x ∧ pNo x) :
    (fFold ta tb L).1 * (M.foldl (rStep ta tb) (1, 1)).2 = (M.foldl (rStep ta tb) (1, 1)).1 * (fFold ta tb L).2 ∧ pos2 (fFold ta tb L) ∧ pos2 (M.foldl (rStep ta tb) (1, 1)) ∧ Nat.gcd (fFold ta tb L).1 (fFold ta tb L).2 = 1 := by
  have h0' : ∀ x ∈ M, pOk x ∧ pNo x := fun x hx => h0 x (hp.mem_iff.2 hx)
  obtain ⟨m1, hc⟩ := fFold_mx ha ha' hb hb' h0
  have hu : ∀ x ∈ M, pos2 (uv ta tb x) := fun x hx => ⟨(uv_bd ha ha' hb hb' (h0' x hx).1 (h0' x hx).2).1, (uv_bd ha ha' hb hb' (h0' x hx).1 (h0' x hx).2).2.2.1⟩
  have m2 := rfold_mx M (1, 1) [] hu Mx.start
  rw [List.nil_append] at m2
  have hh : ∀ x ∈ M, pos2 (hl ta tb x) := fun x hx => by
    rcases hl_uv ta tb x with e | e
    · rw [e]; exact hu x hx
    · rw [e]; exact ⟨(hu x hx).2, (hu x hx).1⟩
  have l1 : le2 (fFold ta tb L) (M.foldl (rStep ta tb) (1, 1)) := m1.le m2 (fun f hf => by
    obtain ⟨x, hx, rfl⟩ := List.mem_map.1 hf
    have hx := hp.mem_iff.1 hx
    refine ⟨hh x hx, hl ta tb x, List.mem_flatMap.2 ⟨x, hx, ?_⟩, hh x hx, le2_refl _⟩
    unfold two
    rcases hl_uv ta tb x with e | e
    · rw [e]; simp
    · rw [e]; simp)
  have l2 : le2 (M.foldl (rStep ta tb) (1, 1)) (fFold ta tb L) := m2.le m1 (fun f hf => by
    obtain ⟨x, hx, hf⟩ := List.mem_flatMap.1 hf
    have hm : hl ta tb x ∈ L.map (hl ta tb) := List.mem_map.2 ⟨x, hp.mem_iff.2 hx, rfl⟩
    unfold two at hf
    rcases List.mem_cons.1 hf with e | e
    · rw [e]; exact ⟨hu x hx, _, hm, hh x hx, (uv_hl ta tb x).1⟩
    · rw [List.mem_singleton.1 e]; exact ⟨⟨(hu x hx).2, (hu x hx).1⟩, _, hm, hh x hx, (uv_hl ta tb x).2⟩)
  exact ⟨Nat.le_antisymm l1 l2, m1.pos, m2.pos, hc⟩
end Go.Proofs.Ytkemhfhmlcljjaa.DistPure
end
section
namespace Go.Proofs.Ytkemhfhmlcljjaa.PD
open Go.RowKit Go.Proofs.YtkemhfhmlcljjaaW.PrintWords Go.Proofs.YtkemhfhmlcljjaaW.PrintLast Go.Proofs.YtkemhfhmlcljjaaW.PrintMore
open Go.Proofs.YtkemhfhmlcljjaaW.EvKit
set_option linter.unusedVariables false
noncomputable def hushref2_More.L0 (x0 : Int) (x1 : Int) (x2 : Int) (x3 : Int) (x9 : Int) : Option (Bool) := lim (fun k => hushref2_More.l0 k x0 x1 x2 x3 x9)
theorem hushref2_More.L0_is (x0 : Int) (x1 : Int) (x2 : Int) (x3 : Int) (x9 : Int) : LimIs (fun k => hushref2_More.l0 k x0 x1 x2 x3 x9) (hushref2_More.L0 x0 x1 x2 x3 x9) := ⟨fun k => (hushref2_More.mono_l k).1 x0 x1 x2 x3 x9, rfl⟩
noncomputable def hushref2_More.J1 (x0 : Int) (x1 : Int) (x2 : Int) (x3 : Int) (x9 : Int) (x10 : Int) (x11 : Int) : Option (Bool) := lim (fun k => hushref2_More.j1 k x0 x1 x2 x3 x9 x10 x11)
theorem hushref2_More.J1_is (x0 : Int) (x1 : Int) (x2 : Int) (x3 : Int) (x9 : Int) (x10 : Int) (x11 : Int) : LimIs (fun k => hushref2_More.j1 k x0 x1 x2 x3 x9 x10 x11) (hushref2_More.J1 x0 x1 x2 x3 x9 x10 x11) := ⟨fun k => (hushref2_More.mono_l k).2 x0 x1 x2 x3 x9 x10 x11, rfl⟩
noncomputable def hushref2_More.F (a0 : Int) (a1 : Int) (a2 : Int) (a3 : Int) : Option (Bool) := lim (fun k => hushref2_More.f k a0 a1 a2 a3)
theorem hushref2_More.F_is (a0 : Int) (a1 : Int) (a2 : Int) (a3 : Int) : LimIs (fun k => hushref2_More.f k a0 a1 a2 a3) (hushref2_More.F a0 a1 a2 a3) := ⟨fun k => hushref2_More.mono a0 a1 a2 a3 k, rfl⟩
set_option maxRecDepth 100000 in
theorem hushref2_More.L0_eq (x0 : Int) (x1 : Int) (x2 : Int) (x3 : Int) (x9 : Int) : hushref2_More.L0 x0 x1 x2 x3 x9 = if x9 < 124 then (if (wrap64 (2 * x0)) ≥ x1 then (hushref2_More.J1 (wrap64 ((wrap64 (2 * x0)) - x1)) x1 (wrap64 (2 * x2)) x3 x9 1 0) else (hushref2_More.J1 (wrap64 (2 * x0)) x1 (wrap64 (2 * x2)) x3 x9 0 0)) else (some false) := by
  refine LimIs.step' (hushref2_More.L0_is x0 x1 x2 x3 x9).1 (b := fun k => if x9 < 124 then (if (wrap64 (2 * x0)) ≥ x1 then (hushref2_More.j1 k (wrap64 ((wrap64 (2 * x0)) - x1)) x1 (wrap64 (2 * x2)) x3 x9 1 0) else (hushref2_More.j1 k (wrap64 (2 * x0)) x1 (wrap64 (2 * x2)) x3 x9 0 0)) else (some false)) (fun k => by first | rfl | rw [hushref2_More.l0]) ?_
  repeat' first
    | (with_reducible exact hushref2_More.J1_is _ _ _ _ _ _ _)
    | (with_reducible exact LimIs.const _)
    | (with_reducible refine LimIs.ite ?_ ?_)
    | (with_reducible refine LimIs.bind ?_ (fun _ => ?_))
    | exact hushref2_More.J1_is _ _ _ _ _ _ _
    | exact LimIs.const _
    | refine LimIs.ite ?_ ?_
    | refine LimIs.bind ?_ (fun _ => ?_)
set_option maxRecDepth 100000 in
theorem hushref2_More.J1_eq (x0 : Int) (x1 : Int) (x2 : Int) (x3 : Int) (x9 : Int) (x10 : Int) (x11 : Int) : hushref2_More.J1 x0 x1 x2 x3 x9 x10 x11 = if x2 ≥ x3 then (if x10 = 1 then (hushref2_More.L0 x0 x1 (wrap64 (x2 - x3)) x3 (wrap64 (x9 + 1))) else (some (decide (x10 > 1)))) else (if x10 = x11 then (hushref2_More.L0 x0 x1 x2 x3 (wrap64 (x9 + 1))) else (some (decide (x10 > x11)))) := by
  refine LimIs.step' (hushref2_More.J1_is x0 x1 x2 x3 x9 x10 x11).1 (b := fun k => if x2 ≥ x3 then (if x10 = 1 then (hushref2_More.l0 k x0 x1 (wrap64 (x2 - x3)) x3 (wrap64 (x9 + 1))) else (some (decide (x10 > 1)))) else (if x10 = x11 then (hushref2_More.l0 k x0 x1 x2 x3 (wrap64 (x9 + 1))) else (some (decide (x10 > x11))))) (fun k => by first | rfl | rw [hushref2_More.j1]) ?_
  repeat' first
    | (with_reducible exact hushref2_More.L0_is _ _ _ _ _)
    | (with_reducible exact LimIs.const _)
    | (with_reducible refine LimIs.ite ?_ ?_)
    | (with_reducible refine LimIs.bind ?_ (fun _ => ?_))
    | exact hushref2_More.L0_is _ _ _ _ _
    | exact LimIs.const _
    | refine LimIs.ite ?_ ?_
    | refine LimIs.bind ?_ (fun _ => ?_)
set_option maxRecDepth 100000 in
theorem hushref2_More.F_eq (a0 : Int) (a1 : Int) (a2 : Int) (a3 : Int) : hushref2_More.F a0 a1 a2 a3 = if a1 = 0 then (none) else (if a3 = 0 then (none) else (if (wrap64 (Int.tdiv a0 a1)) = (wrap64 (Int.tdiv a2 a3)) then (hushref2_More.L0 (Int.tmod a0 a1) a1 (Int.tmod a2 a3) a3 0) else (some (decide ((wrap64 (Int.tdiv a0 a1)) > (wrap64 (Int.tdiv a2 a3))))))) := by
  refine LimIs.out (?_ : LimIs (fun k => if a1 = 0 then (none) else (if a3 = 0 then (none) else (if (wrap64 (Int.tdiv a0 a1)) = (wrap64 (Int.tdiv a2 a3)) then (hushref2_More.l0 k (Int.tmod a0 a1) a1 (Int.tmod a2 a3) a3 0) else (some (decide ((wrap64 (Int.tdiv a0 a1)) > (wrap64 (Int.tdiv a2 a3)))))))) _)
  repeat' first
    | (with_reducible exact hushref2_More.L0_is _ _ _ _ _)
    | (with_reducible exact LimIs.const _)
    | (with_reducible refine LimIs.ite ?_ ?_)
    | (with_reducible refine LimIs.bind ?_ (fun _ => ?_))
    | exact hushref2_More.L0_is _ _ _ _ _
    | exact LimIs.const _
    | refine LimIs.ite ?_ ?_
    | refine LimIs.bind ?_ (fun _ => ?_)
end Go.Proofs.Ytkemhfhmlcljjaa.PD
end
section
namespace Go.Proofs.Ytkemhfhmlcljjaa.DistPure
open Go.RowKit Go.Proofs.Ytkemhfhmlcljjaa.PD Go.Proofs.YtkemhfhmlcljjaaW.PrintWords Go.Proofs.YtkemhfhmlcljjaaW.PrintLast Go.Proofs.YtkemhfhmlcljjaaW.PrintMore Go.Proofs.YtkemhfhmlcljjaaW.EvKit
set_option linter.unusedVariables false
set_option linter.unusedSimpArgs false
theorem digits_step {A B C n : Nat} (h : B < A → C ≤ (A - B) * 2 ^ (n + 1)) : (2 * B < 2 * A → C ≤ (2 * A - 2 * B) * 2 ^ n) := by
  intro h1
  have h2 := h (by omega)
  have e : (A - B) * 2 ^ (n + 1) = (2 * A - 2 * B) * 2 ^ n := by
    rw [Nat.pow_succ, Nat.mul_comm (2 ^ n) 2, ← Nat.mul_assoc, Nat.mul_comm (A - B) 2, Nat.mul_sub]
  rw [← e]; exact h2
theorem rmore_loop : ∀ (n i a v b y : Nat), i + n = 124 → a < v → b < y → v ≤ 2305843009213693952 → y ≤ 2305843009213693952 → (b * v < a * y → v * y ≤ (a * y - b * v) * 2 ^ n) →
    ∃ k, hushref2_More.l0 k (a : Int) (v : Int) (b : Int) (y : Int) (i : Int) = some (decide (b * v < a * y)) := by
  intro n
  induction n with
  | zero =>
    intro i a v b y hi ha hb _ _ h
    refine ⟨1, ?_⟩
    rw [hushref2_More.l0, if_neg (by omega)]
    congr 1
    symm
    rw [decide_eq_false_iff_not]
    intro c
    have h1 := h c
    have h2 : a * y < v * y := Nat.mul_lt_mul_of_pos_right ha (by omega)
    rw [Nat.pow_zero, Nat.mul_one] at h1
    omega
  | succ n ih =>
    intro i a v b y hi ha hb bv bY h
    have hs := digits_step h
    have e1 : wrap64 (2 * (a : Int)) = ((2 * a : Nat) : Int) := by rw [wrap64_of (by omega) (by omega)]; omega
    have e2 : wrap64 (2 * (b : Int)) = ((2 * b : Nat) : Int) := by rw [wrap64_of (by omega) (by omega)]; omega
    have e3 : wrap64 ((i : Int) + 1) = ((i + 1 : Nat) : Int) := by rw [wrap64_of (by omega) (by omega)]; omega
    have hA : 2 * a * y = 2 * (a * y) := Nat.mul_assoc _ _ _
    have hB : 2 * b * v = 2 * (b * v) := Nat.mul_assoc _ _ _
    by_cases c1 : v ≤ 2 * a
    · have e4 : wrap64 (((2 * a : Nat) : Int) - (v : Int)) = ((2 * a - v : Nat) : Int) := by rw [wrap64_of (by omega) (by omega)]; omega
      have hA' : (2 * a - v) * y = 2 * (a * y) - v * y := by rw [Nat.sub_mul, hA]
      have hAy : v * y ≤ 2 * (a * y) := by rw [← hA]; exact Nat.mul_le_mul_right y c1
      by_cases c2 : y ≤ 2 * b
      · have e5 : wrap64 (((2 * b : Nat) : Int) - (y : Int)) = ((2 * b - y : Nat) : Int) := by rw [wrap64_of (by omega) (by omega)]; omega
        have hB' : (2 * b - y) * v = 2 * (b * v) - v * y := by rw [Nat.sub_mul, hB, Nat.mul_comm y v]
        have hBy : v * y ≤ 2 * (b * v) := by rw [← hB, Nat.mul_comm v y]; exact Nat.mul_le_mul_right v c2
        obtain ⟨k, hk⟩ := ih (i + 1) (2 * a - v) v (2 * b - y) y (by omega) (by omega) (by omega) bv bY (by
          rw [hA', hB']
          intro c
          have := hs (by omega)
          rw [show 2 * (a * y) - v * y - (2 * (b * v) - v * y) = 2 * (a * y) - 2 * (b * v) by omega]
          exact this)
        refine ⟨k + 2, ?_⟩
        rw [hushref2_More.l0, if_pos (by omega), e1, if_pos (by omega), e4, e2, hushref2_More.j1, if_pos (by omega), if_pos rfl, e5, e3, hk]
        congr 1
        rw [decide_eq_decide, hA', hB']
        omega
      · refine ⟨2, ?_⟩
        rw [hushref2_More.l0, if_pos (by omega), e1, if_pos (by omega), e4, e2, hushref2_More.j1, if_neg (by omega), if_neg (by decide)]
        congr 1
        rw [decide_eq_decide]
        have : 2 * b * v < y * v := Nat.mul_lt_mul_of_pos_right (by omega) (by omega)
        rw [hB, Nat.mul_comm y v] at this
        constructor
        · intro _; omega
        · intro _; decide
    · by_cases c2 : y ≤ 2 * b
      · refine ⟨2, ?_⟩
        rw [hushref2_More.l0, if_pos (by omega), e1, if_neg (by omega), e2, hushref2_More.j1, if_pos (by omega), if_neg (by decide)]
        congr 1
        rw [decide_eq_decide]
        have h1 : 2 * a * y < v * y := Nat.mul_lt_mul_of_pos_right (by omega) (by omega)
        have h2 : y * v ≤ 2 * b * v := Nat.mul_le_mul_right v c2
        rw [hA] at h1
        rw [hB, Nat.mul_comm y v] at h2
        constructor
        · intro c; exact absurd c (by decide)
        · intro c; omega
      · obtain ⟨k, hk⟩ := ih (i + 1) (2 * a) v (2 * b) y (by omega) (by omega) (by omega) bv bY (by rw [hA, hB]; exact hs)
        refine ⟨k + 2, ?_⟩
        rw [hushref2_More.l0, if_pos (by omega), e1, if_neg (by omega), e2, hushref2_More.j1, if_neg (by omega), if_pos rfl, e3, hk]
        congr 1
        rw [decide_eq_decide, hA, hB]
        omega
theorem rmore_is (u v x y : Nat) (hv : 0 < v) (hy : 0 < y) (b1 : u ≤ 2305843009213693952) (b2 : v ≤ 2305843009213693952) (b3 : x ≤ 2305843009213693952) (b4 : y ≤ 2305843009213693952) :
    ∃ k, hushref2_More.f k (u : Int) (v : Int) (x : Int) (y : Int) = some (decide (x * v < u * y)) := by
  have e1 : wrap64 (Int.tdiv (u : Int) (v : Int)) = ((u / v : Nat) : Int) := quotN v (by omega)
  have e2 : wrap64 (Int.tdiv (x : Int) (y : Int)) = ((x / y : Nat) : Int) := quotN y (by omega)
  have e3 : Int.tmod (u : Int) (v : Int) = ((u % v : Nat) : Int) := rfl
  have e4 : Int.tmod (x : Int) (y : Int) = ((x % y : Nat) : Int) := rfl
  by_cases c : u / v = x / y
  · obtain ⟨k, hk⟩ := rmore_loop 124 0 (u % v) v (x % y) y rfl (Nat.mod_lt u hv) (Nat.mod_lt x hy) b2 b4 (by
      intro h
      have h1 : v * y ≤ 2305843009213693952 * 2305843009213693952 := Nat.mul_le_mul b2 b4
      have h2 : 1 * 2 ^ 124 ≤ (u % v * y - x % y * v) * 2 ^ 124 := Nat.mul_le_mul_right _ (by omega)
      have h3 : 2305843009213693952 * 2305843009213693952 ≤ 1 * 2 ^ 124 := by decide
      exact Nat.le_trans h1 (Nat.le_trans h3 h2))
    refine ⟨k, ?_⟩
    unfold hushref2_More.f
    rw [if_neg (by omega), if_neg (by omega), e1, e2, e3, e4, if_pos (by omega)]
    rw [show ((0 : Nat) : Int) = 0 from rfl] at hk
    rw [hk]
    congr 1
    rw [decide_eq_decide]
    exact (more_eq c).symm
  · refine ⟨0, ?_⟩
    unfold hushref2_More.f
    rw [if_neg (by omega), if_neg (by omega), e1, e2, if_neg (by omega)]
    congr 1
    rw [decide_eq_decide]
    rcases Nat.lt_or_ge (x / y) (u / v) with c1 | c1
    · exact ⟨fun _ => more_gt hv hy c1, fun _ => by omega⟩
    · have := more_gt hy hv (show u / v < x / y by omega)
      constructor
      · intro h; omega
      · intro h; omega
end Go.Proofs.Ytkemhfhmlcljjaa.DistPure
end
section
namespace Go.Proofs.Ytkemhfhmlcljjaa.PD
open Go.RowKit Go.Proofs.YtkemhfhmlcljjaaW.PrintWords Go.Proofs.YtkemhfhmlcljjaaW.PrintLast Go.Proofs.YtkemhfhmlcljjaaW.PrintMore
open Go.Proofs.YtkemhfhmlcljjaaW.EvKit
set_option linter.unusedVariables false
noncomputable def hushref2_Far.L0 (x0 : List (S32)) (x1 : List (S32)) (x8 : Int) (x9 : Int) (x29 : List (List Int)) (x30 : Int) (x31 : Int) : Option (Int × Int × Int) := lim (fun k => hushref2_Far.l0 k x0 x1 x8 x9 x29 x30 x31)
theorem hushref2_Far.L0_is (x0 : List (S32)) (x1 : List (S32)) (x8 : Int) (x9 : Int) (x29 : List (List Int)) (x30 : Int) (x31 : Int) : LimIs (fun k => hushref2_Far.l0 k x0 x1 x8 x9 x29 x30 x31) (hushref2_Far.L0 x0 x1 x8 x9 x29 x30 x31) := ⟨fun k => (hushref2_Far.mono_l k).1 x0 x1 x8 x9 x29 x30 x31, rfl⟩
noncomputable def hushref2_Far.J1 (x0 : List (S32)) (x1 : List (S32)) (x8 : Int) (x9 : Int) (x12 : Int) (x13 : Int) (x29 : List (List Int)) (x30 : Int) (x31 : Int) (x52 : Bool) : Option (Int × Int × Int) := lim (fun k => hushref2_Far.j1 k x0 x1 x8 x9 x12 x13 x29 x30 x31 x52)
theorem hushref2_Far.J1_is (x0 : List (S32)) (x1 : List (S32)) (x8 : Int) (x9 : Int) (x12 : Int) (x13 : Int) (x29 : List (List Int)) (x30 : Int) (x31 : Int) (x52 : Bool) : LimIs (fun k => hushref2_Far.j1 k x0 x1 x8 x9 x12 x13 x29 x30 x31 x52) (hushref2_Far.J1 x0 x1 x8 x9 x12 x13 x29 x30 x31 x52) := ⟨fun k => (hushref2_Far.mono_l k).2 x0 x1 x8 x9 x12 x13 x29 x30 x31 x52, rfl⟩
noncomputable def hushref2_Far.F (l0 : List (S32)) (l1 : List (S32)) : Option (Int × Int × Int) := lim (fun k => hushref2_Far.f k l0 l1)
theorem hushref2_Far.F_is (l0 : List (S32)) (l1 : List (S32)) : LimIs (fun k => hushref2_Far.f k l0 l1) (hushref2_Far.F l0 l1) := ⟨fun k => hushref2_Far.mono l0 l1 k, rfl⟩
set_option maxRecDepth 100000 in
theorem hushref2_Far.L0_eq (x0 : List (S32)) (x1 : List (S32)) (x8 : Int) (x9 : Int) (x29 : List (List Int)) (x30 : Int) (x31 : Int) : hushref2_Far.L0 x0 x1 x8 x9 x29 x30 x31 = if x31 < x30 then (if 0 ≤ x31 then (if x31 < (x29.length : Int) then ((hushref2_Weight.F x0 (rd_L1 x29 x31)).bind fun t213 => ((hushref2_Total.F x1).bind fun t214 => ((hushref2_Weight.F x1 (rd_L1 x29 x31)).bind fun t215 => ((hushref2_Total.F x0).bind fun t216 => (if (wrap64 (t213 * t214)) = 0 then (hushref2_Far.J1 x0 x1 x8 x9 (wrap64 (t213 * t214)) (wrap64 (t215 * t216)) x29 x30 x31 true) else (hushref2_Far.J1 x0 x1 x8 x9 (wrap64 (t213 * t214)) (wrap64 (t215 * t216)) x29 x30 x31 ((wrap64 (t215 * t216)) == 0))))))) else (none)) else (none)) else ((hushref1_Divisor.F x8 x9).bind fun t211 => (if t211 = 0 then (none) else (if (wrap64 (Int.tdiv x8 t211)) > 1073741824 then (some (0, 0, 4)) else (if (wrap64 (Int.tdiv x9 t211)) > 1073741824 then (some (0, 0, 4)) else (some (wrap64 (Int.tdiv x8 t211), wrap64 (Int.tdiv x9 t211), 0)))))) := by
  refine LimIs.step' (hushref2_Far.L0_is x0 x1 x8 x9 x29 x30 x31).1 (b := fun k => if x31 < x30 then (if 0 ≤ x31 then (if x31 < (x29.length : Int) then ((hushref2_Weight.f k x0 (rd_L1 x29 x31)).bind fun t213 => ((hushref2_Total.f k x1).bind fun t214 => ((hushref2_Weight.f k x1 (rd_L1 x29 x31)).bind fun t215 => ((hushref2_Total.f k x0).bind fun t216 => (if (wrap64 (t213 * t214)) = 0 then (hushref2_Far.j1 k x0 x1 x8 x9 (wrap64 (t213 * t214)) (wrap64 (t215 * t216)) x29 x30 x31 true) else (hushref2_Far.j1 k x0 x1 x8 x9 (wrap64 (t213 * t214)) (wrap64 (t215 * t216)) x29 x30 x31 ((wrap64 (t215 * t216)) == 0))))))) else (none)) else (none)) else ((hushref1_Divisor.f k x8 x9).bind fun t211 => (if t211 = 0 then (none) else (if (wrap64 (Int.tdiv x8 t211)) > 1073741824 then (some (0, 0, 4)) else (if (wrap64 (Int.tdiv x9 t211)) > 1073741824 then (some (0, 0, 4)) else (some (wrap64 (Int.tdiv x8 t211), wrap64 (Int.tdiv x9 t211), 0))))))) (fun k => by first | rfl | rw [hushref2_Far.l0]) ?_
  repeat' first
    | (with_reducible exact hushref2_Weight.F_is _ _)
    | (with_reducible exact hushref2_Total.F_is _)
    | (with_reducible exact hushref2_Far.J1_is _ _ _ _ _ _ _ _ _ _)
    | (with_reducible exact hushref1_Divisor.F_is _ _)
    | (with_reducible exact LimIs.const _)
    | (with_reducible refine LimIs.ite ?_ ?_)
    | (with_reducible refine LimIs.bind ?_ (fun _ => ?_))
    | exact hushref2_Weight.F_is _ _
    | exact hushref2_Total.F_is _
    | exact hushref2_Far.J1_is _ _ _ _ _ _ _ _ _ _
    | exact hushref1_Divisor.F_is _ _
    | exact LimIs.const _
    | refine LimIs.ite ?_ ?_
    | refine LimIs.bind ?_ (fun _ => ?_)
set_option maxRecDepth 100000 in
theorem hushref2_Far.J1_eq (x0 : List (S32)) (x1 : List (S32)) (x8 : Int) (x9 : Int) (x12 : Int) (x13 : Int) (x29 : List (List Int)) (x30 : Int) (x31 : Int) (x52 : Bool) : hushref2_Far.J1 x0 x1 x8 x9 x12 x13 x29 x30 x31 x52 = if x52 = true then (some (0, 0, 6)) else ((hushref2_More.F x12 x13 x8 x9).bind fun t217 => (if t217 = true then ((hushref2_More.F x13 x12 x12 x13).bind fun t218 => (if t218 = true then (hushref2_Far.L0 x0 x1 x13 x12 x29 x30 (wrap64 (x31 + 1))) else (hushref2_Far.L0 x0 x1 x12 x13 x29 x30 (wrap64 (x31 + 1))))) else ((hushref2_More.F x13 x12 x8 x9).bind fun t219 => (if t219 = true then (hushref2_Far.L0 x0 x1 x13 x12 x29 x30 (wrap64 (x31 + 1))) else (hushref2_Far.L0 x0 x1 x8 x9 x29 x30 (wrap64 (x31 + 1))))))) := by
  refine LimIs.step' (hushref2_Far.J1_is x0 x1 x8 x9 x12 x13 x29 x30 x31 x52).1 (b := fun k => if x52 = true then (some (0, 0, 6)) else ((hushref2_More.f k x12 x13 x8 x9).bind fun t217 => (if t217 = true then ((hushref2_More.f k x13 x12 x12 x13).bind fun t218 => (if t218 = true then (hushref2_Far.l0 k x0 x1 x13 x12 x29 x30 (wrap64 (x31 + 1))) else (hushref2_Far.l0 k x0 x1 x12 x13 x29 x30 (wrap64 (x31 + 1))))) else ((hushref2_More.f k x13 x12 x8 x9).bind fun t219 => (if t219 = true then (hushref2_Far.l0 k x0 x1 x13 x12 x29 x30 (wrap64 (x31 + 1))) else (hushref2_Far.l0 k x0 x1 x8 x9 x29 x30 (wrap64 (x31 + 1)))))))) (fun k => by first | rfl | rw [hushref2_Far.j1]) ?_
  repeat' first
    | (with_reducible exact hushref2_More.F_is _ _ _ _)
    | (with_reducible exact hushref2_Far.L0_is _ _ _ _ _ _ _)
    | (with_reducible exact LimIs.const _)
    | (with_reducible refine LimIs.ite ?_ ?_)
    | (with_reducible refine LimIs.bind ?_ (fun _ => ?_))
    | exact hushref2_More.F_is _ _ _ _
    | exact hushref2_Far.L0_is _ _ _ _ _ _ _
    | exact LimIs.const _
    | refine LimIs.ite ?_ ?_
    | refine LimIs.bind ?_ (fun _ => ?_)
set_option maxRecDepth 100000 in
theorem hushref2_Far.F_eq (l0 : List (S32)) (l1 : List (S32)) : hushref2_Far.F l0 l1 = (hushref2_Wrong.F l0).bind fun t206 => (if t206 = 0 then ((hushref2_Wrong.F l1).bind fun t207 => (if t207 = 0 then ((hushref2_Outs.F l0 l1).bind fun t208 => (hushref2_Far.L0 l0 l1 1 1 t208 (t208.length : Int) 0)) else (some (0, 0, t207)))) else (some (0, 0, t206))) := by
  refine LimIs.out (?_ : LimIs (fun k => (hushref2_Wrong.f k l0).bind fun t206 => (if t206 = 0 then ((hushref2_Wrong.f k l1).bind fun t207 => (if t207 = 0 then ((hushref2_Outs.f k l0 l1).bind fun t208 => (hushref2_Far.l0 k l0 l1 1 1 t208 (t208.length : Int) 0)) else (some (0, 0, t207)))) else (some (0, 0, t206)))) _)
  repeat' first
    | (with_reducible exact hushref2_Wrong.F_is _)
    | (with_reducible exact hushref2_Outs.F_is _ _)
    | (with_reducible exact hushref2_Far.L0_is _ _ _ _ _ _ _)
    | (with_reducible exact LimIs.const _)
    | (with_reducible refine LimIs.ite ?_ ?_)
    | (with_reducible refine LimIs.bind ?_ (fun _ => ?_))
    | exact hushref2_Wrong.F_is _
    | exact hushref2_Outs.F_is _ _
    | exact hushref2_Far.L0_is _ _ _ _ _ _ _
    | exact LimIs.const _
    | refine LimIs.ite ?_ ?_
    | refine LimIs.bind ?_ (fun _ => ?_)
end Go.Proofs.Ytkemhfhmlcljjaa.PD
end
section
namespace Go.Proofs.Ytkemhfhmlcljjaa.PD
open Go.RowKit Go.Proofs.YtkemhfhmlcljjaaW.PrintWords Go.Proofs.YtkemhfhmlcljjaaW.PrintLast Go.Proofs.YtkemhfhmlcljjaaW.PrintMore
open Go.Proofs.YtkemhfhmlcljjaaW.EvKit
set_option linter.unusedVariables false
noncomputable def hushref2_Apart.L0 (x0 : List (S32)) (x1 : List (S32)) (x8 : Int) (x28 : List (List Int)) (x29 : Int) (x30 : Int) : Option (Int × Int × Int) := lim (fun k => hushref2_Apart.l0 k x0 x1 x8 x28 x29 x30)
theorem hushref2_Apart.L0_is (x0 : List (S32)) (x1 : List (S32)) (x8 : Int) (x28 : List (List Int)) (x29 : Int) (x30 : Int) : LimIs (fun k => hushref2_Apart.l0 k x0 x1 x8 x28 x29 x30) (hushref2_Apart.L0 x0 x1 x8 x28 x29 x30) := ⟨fun k => (hushref2_Apart.mono_l k) x0 x1 x8 x28 x29 x30, rfl⟩
noncomputable def hushref2_Apart.F (l0 : List (S32)) (l1 : List (S32)) : Option (Int × Int × Int) := lim (fun k => hushref2_Apart.f k l0 l1)
theorem hushref2_Apart.F_is (l0 : List (S32)) (l1 : List (S32)) : LimIs (fun k => hushref2_Apart.f k l0 l1) (hushref2_Apart.F l0 l1) := ⟨fun k => hushref2_Apart.mono l0 l1 k, rfl⟩
set_option maxRecDepth 100000 in
theorem hushref2_Apart.L0_eq (x0 : List (S32)) (x1 : List (S32)) (x8 : Int) (x28 : List (List Int)) (x29 : Int) (x30 : Int) : hushref2_Apart.L0 x0 x1 x8 x28 x29 x30 = if x30 < x29 then (if 0 ≤ x30 then (if x30 < (x28.length : Int) then ((hushref2_Weight.F x0 (rd_L1 x28 x30)).bind fun t227 => ((hushref2_Total.F x1).bind fun t228 => ((hushref2_Weight.F x1 (rd_L1 x28 x30)).bind fun t229 => ((hushref2_Total.F x0).bind fun t230 => (if (wrap64 ((wrap64 (t227 * t228)) - (wrap64 (t229 * t230)))) > 0 then (hushref2_Apart.L0 x0 x1 (wrap64 (x8 + (wrap64 ((wrap64 (t227 * t228)) - (wrap64 (t229 * t230)))))) x28 x29 (wrap64 (x30 + 1))) else (hushref2_Apart.L0 x0 x1 x8 x28 x29 (wrap64 (x30 + 1)))))))) else (none)) else (none)) else ((hushref2_Total.F x0).bind fun t231 => ((hushref2_Total.F x1).bind fun t232 => ((hushref1_Divisor.F x8 (wrap64 (t231 * t232))).bind fun t233 => (if t233 = 0 then (none) else (if (wrap64 (Int.tdiv (wrap64 (t231 * t232)) t233)) > 1073741824 then (some (0, 0, 4)) else (some (wrap64 (Int.tdiv x8 t233), wrap64 (Int.tdiv (wrap64 (t231 * t232)) t233), 0))))))) := by
  refine LimIs.step' (hushref2_Apart.L0_is x0 x1 x8 x28 x29 x30).1 (b := fun k => if x30 < x29 then (if 0 ≤ x30 then (if x30 < (x28.length : Int) then ((hushref2_Weight.f k x0 (rd_L1 x28 x30)).bind fun t227 => ((hushref2_Total.f k x1).bind fun t228 => ((hushref2_Weight.f k x1 (rd_L1 x28 x30)).bind fun t229 => ((hushref2_Total.f k x0).bind fun t230 => (if (wrap64 ((wrap64 (t227 * t228)) - (wrap64 (t229 * t230)))) > 0 then (hushref2_Apart.l0 k x0 x1 (wrap64 (x8 + (wrap64 ((wrap64 (t227 * t228)) - (wrap64 (t229 * t230)))))) x28 x29 (wrap64 (x30 + 1))) else (hushref2_Apart.l0 k x0 x1 x8 x28 x29 (wrap64 (x30 + 1)))))))) else (none)) else (none)) else ((hushref2_Total.f k x0).bind fun t231 => ((hushref2_Total.f k x1).bind fun t232 => ((hushref1_Divisor.f k x8 (wrap64 (t231 * t232))).bind fun t233 => (if t233 = 0 then (none) else (if (wrap64 (Int.tdiv (wrap64 (t231 * t232)) t233)) > 1073741824 then (some (0, 0, 4)) else (some (wrap64 (Int.tdiv x8 t233), wrap64 (Int.tdiv (wrap64 (t231 * t232)) t233), 0)))))))) (fun k => by first | rfl | rw [hushref2_Apart.l0]) ?_
  repeat' first
    | (with_reducible exact hushref2_Weight.F_is _ _)
    | (with_reducible exact hushref2_Total.F_is _)
    | (with_reducible exact hushref2_Apart.L0_is _ _ _ _ _ _)
    | (with_reducible exact hushref1_Divisor.F_is _ _)
    | (with_reducible exact LimIs.const _)
    | (with_reducible refine LimIs.ite ?_ ?_)
    | (with_reducible refine LimIs.bind ?_ (fun _ => ?_))
    | exact hushref2_Weight.F_is _ _
    | exact hushref2_Total.F_is _
    | exact hushref2_Apart.L0_is _ _ _ _ _ _
    | exact hushref1_Divisor.F_is _ _
    | exact LimIs.const _
    | refine LimIs.ite ?_ ?_
    | refine LimIs.bind ?_ (fun _ => ?_)
set_option maxRecDepth 100000 in
theorem hushref2_Apart.F_eq (l0 : List (S32)) (l1 : List (S32)) : hushref2_Apart.F l0 l1 = (hushref2_Wrong.F l0).bind fun t221 => (if t221 = 0 then ((hushref2_Wrong.F l1).bind fun t222 => (if t222 = 0 then ((hushref2_Outs.F l0 l1).bind fun t223 => (hushref2_Apart.L0 l0 l1 0 t223 (t223.length : Int) 0)) else (some (0, 0, t222)))) else (some (0, 0, t221))) := by
  refine LimIs.out (?_ : LimIs (fun k => (hushref2_Wrong.f k l0).bind fun t221 => (if t221 = 0 then ((hushref2_Wrong.f k l1).bind fun t222 => (if t222 = 0 then ((hushref2_Outs.f k l0 l1).bind fun t223 => (hushref2_Apart.l0 k l0 l1 0 t223 (t223.length : Int) 0)) else (some (0, 0, t222)))) else (some (0, 0, t221)))) _)
  repeat' first
    | (with_reducible exact hushref2_Wrong.F_is _)
    | (with_reducible exact hushref2_Outs.F_is _ _)
    | (with_reducible exact hushref2_Apart.L0_is _ _ _ _ _ _)
    | (with_reducible exact LimIs.const _)
    | (with_reducible refine LimIs.ite ?_ ?_)
    | (with_reducible refine LimIs.bind ?_ (fun _ => ?_))
    | exact hushref2_Wrong.F_is _
    | exact hushref2_Outs.F_is _ _
    | exact hushref2_Apart.L0_is _ _ _ _ _ _
    | exact LimIs.const _
    | refine LimIs.ite ?_ ?_
    | refine LimIs.bind ?_ (fun _ => ?_)
end Go.Proofs.Ytkemhfhmlcljjaa.PD
end
section
namespace Go.Proofs.Ytkemhfhmlcljjaa.PD
open Go.RowKit Go.Proofs.YtkemhfhmlcljjaaW.PrintWords Go.Proofs.YtkemhfhmlcljjaaW.PrintLast Go.Proofs.YtkemhfhmlcljjaaW.PrintMore
open Go.Proofs.YtkemhfhmlcljjaaW.EvKit
set_option linter.unusedVariables false
noncomputable def dist_more.L0 (x0 : Int) (x1 : Int) (x2 : Int) (x3 : Int) : Option (Bool) := lim (fun k => dist_more.l0 k x0 x1 x2 x3)
theorem dist_more.L0_is (x0 : Int) (x1 : Int) (x2 : Int) (x3 : Int) : LimIs (fun k => dist_more.l0 k x0 x1 x2 x3) (dist_more.L0 x0 x1 x2 x3) := ⟨fun k => (dist_more.mono_l k) x0 x1 x2 x3, rfl⟩
noncomputable def dist_more.F (a0 : Int) (a1 : Int) (a2 : Int) (a3 : Int) : Option (Bool) := lim (fun k => dist_more.f k a0 a1 a2 a3)
theorem dist_more.F_is (a0 : Int) (a1 : Int) (a2 : Int) (a3 : Int) : LimIs (fun k => dist_more.f k a0 a1 a2 a3) (dist_more.F a0 a1 a2 a3) := ⟨fun k => dist_more.mono a0 a1 a2 a3 k, rfl⟩
set_option maxRecDepth 100000 in
theorem dist_more.L0_eq (x0 : Int) (x1 : Int) (x2 : Int) (x3 : Int) : dist_more.L0 x0 x1 x2 x3 = if x1 = 0 then (none) else (if x3 = 0 then (none) else (if (wrap64 (Int.tdiv x0 x1)) = (wrap64 (Int.tdiv x2 x3)) then (if (Int.tmod x0 x1) = 0 then (some (decide ((Int.tmod x0 x1) > 0))) else (if (Int.tmod x2 x3) = 0 then (some (decide ((Int.tmod x0 x1) > 0))) else (dist_more.L0 x3 (Int.tmod x2 x3) x1 (Int.tmod x0 x1)))) else (some (decide ((wrap64 (Int.tdiv x0 x1)) > (wrap64 (Int.tdiv x2 x3))))))) := by
  refine LimIs.step' (dist_more.L0_is x0 x1 x2 x3).1 (b := fun k => if x1 = 0 then (none) else (if x3 = 0 then (none) else (if (wrap64 (Int.tdiv x0 x1)) = (wrap64 (Int.tdiv x2 x3)) then (if (Int.tmod x0 x1) = 0 then (some (decide ((Int.tmod x0 x1) > 0))) else (if (Int.tmod x2 x3) = 0 then (some (decide ((Int.tmod x0 x1) > 0))) else (dist_more.l0 k x3 (Int.tmod x2 x3) x1 (Int.tmod x0 x1)))) else (some (decide ((wrap64 (Int.tdiv x0 x1)) > (wrap64 (Int.tdiv x2 x3)))))))) (fun k => by first | rfl | rw [dist_more.l0]) ?_
  repeat' first
    | (with_reducible exact dist_more.L0_is _ _ _ _)
    | (with_reducible exact LimIs.const _)
    | (with_reducible refine LimIs.ite ?_ ?_)
    | (with_reducible refine LimIs.bind ?_ (fun _ => ?_))
    | exact dist_more.L0_is _ _ _ _
    | exact LimIs.const _
    | refine LimIs.ite ?_ ?_
    | refine LimIs.bind ?_ (fun _ => ?_)
set_option maxRecDepth 100000 in
theorem dist_more.F_eq (a0 : Int) (a1 : Int) (a2 : Int) (a3 : Int) : dist_more.F a0 a1 a2 a3 = dist_more.L0 a0 a1 a2 a3 := by
  refine LimIs.out (?_ : LimIs (fun k => dist_more.l0 k a0 a1 a2 a3) _)
  repeat' first
    | (with_reducible exact dist_more.L0_is _ _ _ _)
    | (with_reducible exact LimIs.const _)
    | (with_reducible refine LimIs.ite ?_ ?_)
    | (with_reducible refine LimIs.bind ?_ (fun _ => ?_))
    | exact dist_more.L0_is _ _ _ _
    | exact LimIs.const _
    | refine LimIs.ite ?_ ?_
    | refine LimIs.bind ?_ (fun _ => ?_)
end Go.Proofs.Ytkemhfhmlcljjaa.PD
end
section
namespace Go.Proofs.Ytkemhfhmlcljjaa.PD
open Go.RowKit Go.Proofs.YtkemhfhmlcljjaaW.PrintWords Go.Proofs.YtkemhfhmlcljjaaW.PrintLast Go.Proofs.YtkemhfhmlcljjaaW.PrintMore
open Go.Proofs.YtkemhfhmlcljjaaW.EvKit
set_option linter.unusedVariables false
noncomputable def dist_Far.F (l0 : List S32) (l1 : List S32) : Option (Int × Int × Int) := lim (fun k => dist_Far.f k l0 l1)
theorem dist_Far.F_is (l0 : List S32) (l1 : List S32) : LimIs (fun k => dist_Far.f k l0 l1) (dist_Far.F l0 l1) := ⟨fun k => dist_Far.mono l0 l1 k, rfl⟩
noncomputable def dist_Apart.F (l0 : List S32) (l1 : List S32) : Option (Int × Int × Int) := lim (fun k => dist_Apart.f k l0 l1)
theorem dist_Apart.F_is (l0 : List S32) (l1 : List S32) : LimIs (fun k => dist_Apart.f k l0 l1) (dist_Apart.F l0 l1) := ⟨fun k => dist_Apart.mono l0 l1 k, rfl⟩
set_option maxRecDepth 100000 in
theorem dist_Far.F_eq (l0 : List S32) (l1 : List S32) : dist_Far.F l0 l1 = (dist_wrongs.F [l0, l1]).bind fun e => if e = 0 then ((dist_total.F l0).bind fun ta => (dist_total.F l1).bind fun tb => if dGuard l0 l1 ta tb = true then some (farVal ta tb (pairsL l0 l1)) else none) else some (0, 0, e) := by
  refine LimIs.out (?_ : LimIs (fun k => (dist_wrongs.f k [l0, l1]).bind fun e => if e = 0 then ((dist_total.f k l0).bind fun ta => (dist_total.f k l1).bind fun tb => if dGuard l0 l1 ta tb = true then some (farVal ta tb (pairsL l0 l1)) else none) else some (0, 0, e)) _)
  repeat' first
    | (with_reducible exact dist_wrongs.F_is _)
    | (with_reducible exact dist_total.F_is _)
    | (with_reducible exact LimIs.const _)
    | (with_reducible refine LimIs.ite ?_ ?_)
    | (with_reducible refine LimIs.bind ?_ (fun _ => ?_))
    | exact dist_wrongs.F_is _
    | exact dist_total.F_is _
    | exact LimIs.const _
    | refine LimIs.ite ?_ ?_
    | refine LimIs.bind ?_ (fun _ => ?_)
set_option maxRecDepth 100000 in
theorem dist_Apart.F_eq (l0 : List S32) (l1 : List S32) : dist_Apart.F l0 l1 = (dist_wrongs.F [l0, l1]).bind fun e => if e = 0 then ((dist_total.F l0).bind fun ta => (dist_total.F l1).bind fun tb => if dSize l0 = true then (if dSize l1 = true then ((dist_gcd.F (wrap64 (ta * tb)) (apN ta tb (pairsL l0 l1))).bind fun g => if g = 0 then none else some (apOut (wrap64 (Int.tdiv (apN ta tb (pairsL l0 l1)) g)) (wrap64 (Int.tdiv (wrap64 (ta * tb)) g)))) else none) else none) else some (0, 0, e) := by
  refine LimIs.out (?_ : LimIs (fun k => (dist_wrongs.f k [l0, l1]).bind fun e => if e = 0 then ((dist_total.f k l0).bind fun ta => (dist_total.f k l1).bind fun tb => if dSize l0 = true then (if dSize l1 = true then ((dist_gcd.f k (wrap64 (ta * tb)) (apN ta tb (pairsL l0 l1))).bind fun g => if g = 0 then none else some (apOut (wrap64 (Int.tdiv (apN ta tb (pairsL l0 l1)) g)) (wrap64 (Int.tdiv (wrap64 (ta * tb)) g)))) else none) else none) else some (0, 0, e)) _)
  repeat' first
    | (with_reducible exact dist_wrongs.F_is _)
    | (with_reducible exact dist_total.F_is _)
    | (with_reducible exact dist_gcd.F_is _ _)
    | (with_reducible exact LimIs.const _)
    | (with_reducible refine LimIs.ite ?_ ?_)
    | (with_reducible refine LimIs.bind ?_ (fun _ => ?_))
    | exact dist_wrongs.F_is _
    | exact dist_total.F_is _
    | exact dist_gcd.F_is _ _
    | exact LimIs.const _
    | refine LimIs.ite ?_ ?_
    | refine LimIs.bind ?_ (fun _ => ?_)
end Go.Proofs.Ytkemhfhmlcljjaa.PD
end
section
namespace Go.Proofs.Ytkemhfhmlcljjaa.PD
open Go.RowKit Go.Proofs.YtkemhfhmlcljjaaW.PrintWords Go.Proofs.YtkemhfhmlcljjaaW.PrintLast Go.Proofs.YtkemhfhmlcljjaaW.PrintMore
open Go.Proofs.YtkemhfhmlcljjaaW.EvKit
set_option linter.unusedVariables false
end Go.Proofs.Ytkemhfhmlcljjaa.PD
end
section
namespace Go.Proofs.Ytkemhfhmlcljjaa.PD
open Go.RowKit Go.Proofs.YtkemhfhmlcljjaaW.PrintWords Go.Proofs.YtkemhfhmlcljjaaW.PrintLast Go.Proofs.YtkemhfhmlcljjaaW.PrintMore
open Go.Proofs.YtkemhfhmlcljjaaW.EvKit
set_option linter.unusedVariables false
noncomputable def hushlaw2_DistFars.J0 (x0 : List (S32)) (x1 : List (S32)) (x28 : Bool) : Option (Bool) := lim (fun k => hushlaw2_DistFars.j0 k x0 x1 x28)
theorem hushlaw2_DistFars.J0_is (x0 : List (S32)) (x1 : List (S32)) (x28 : Bool) : LimIs (fun k => hushlaw2_DistFars.j0 k x0 x1 x28) (hushlaw2_DistFars.J0 x0 x1 x28) := ⟨fun k => (hushlaw2_DistFars.mono_l k) x0 x1 x28, rfl⟩
noncomputable def hushlaw2_DistFars.F (l0 : List (S32)) (l1 : List (S32)) : Option (Bool) := lim (fun k => hushlaw2_DistFars.f k l0 l1)
theorem hushlaw2_DistFars.F_is (l0 : List (S32)) (l1 : List (S32)) : LimIs (fun k => hushlaw2_DistFars.f k l0 l1) (hushlaw2_DistFars.F l0 l1) := ⟨fun k => hushlaw2_DistFars.mono l0 l1 k, rfl⟩
set_option maxRecDepth 100000 in
theorem hushlaw2_DistFars.J0_eq (x0 : List (S32)) (x1 : List (S32)) (x28 : Bool) : hushlaw2_DistFars.J0 x0 x1 x28 = if x28 = true then (some false) else ((dist_Apart.F x0 x1).bind fun bt242 => ((hushref2_Apart.F x0 x1).bind fun bt245 => (if (bt242.1 == bt245.1 && (bt242.2.1 == bt245.2.1)) = true then (some (bt242.2.2 == bt245.2.2)) else (some false)))) := by
  refine LimIs.step' (hushlaw2_DistFars.J0_is x0 x1 x28).1 (b := fun k => if x28 = true then (some false) else ((dist_Apart.f k x0 x1).bind fun bt242 => ((hushref2_Apart.f k x0 x1).bind fun bt245 => (if (bt242.1 == bt245.1 && (bt242.2.1 == bt245.2.1)) = true then (some (bt242.2.2 == bt245.2.2)) else (some false))))) (fun k => by first | rfl | rw [hushlaw2_DistFars.j0]) ?_
  repeat' first
    | (with_reducible exact dist_Apart.F_is _ _)
    | (with_reducible exact hushref2_Apart.F_is _ _)
    | (with_reducible exact LimIs.const _)
    | (with_reducible refine LimIs.ite ?_ ?_)
    | (with_reducible refine LimIs.bind ?_ (fun _ => ?_))
    | exact dist_Apart.F_is _ _
    | exact hushref2_Apart.F_is _ _
    | exact LimIs.const _
    | refine LimIs.ite ?_ ?_
    | refine LimIs.bind ?_ (fun _ => ?_)
set_option maxRecDepth 100000 in
theorem hushlaw2_DistFars.F_eq (l0 : List (S32)) (l1 : List (S32)) : hushlaw2_DistFars.F l0 l1 = (dist_Far.F l0 l1).bind fun bt234 => ((hushref2_Far.F l0 l1).bind fun bt238 => (if (!(bt234.1 == bt238.1) || (!(bt234.2.1 == bt238.2.1))) = true then (hushlaw2_DistFars.J0 l0 l1 true) else (hushlaw2_DistFars.J0 l0 l1 (bt234.2.2 != bt238.2.2)))) := by
  refine LimIs.out (?_ : LimIs (fun k => (dist_Far.f k l0 l1).bind fun bt234 => ((hushref2_Far.f k l0 l1).bind fun bt238 => (if (!(bt234.1 == bt238.1) || (!(bt234.2.1 == bt238.2.1))) = true then (hushlaw2_DistFars.j0 k l0 l1 true) else (hushlaw2_DistFars.j0 k l0 l1 (bt234.2.2 != bt238.2.2))))) _)
  repeat' first
    | (with_reducible exact dist_Far.F_is _ _)
    | (with_reducible exact hushref2_Far.F_is _ _)
    | (with_reducible exact hushlaw2_DistFars.J0_is _ _ _)
    | (with_reducible exact LimIs.const _)
    | (with_reducible refine LimIs.ite ?_ ?_)
    | (with_reducible refine LimIs.bind ?_ (fun _ => ?_))
    | exact dist_Far.F_is _ _
    | exact hushref2_Far.F_is _ _
    | exact hushlaw2_DistFars.J0_is _ _ _
    | exact LimIs.const _
    | refine LimIs.ite ?_ ?_
    | refine LimIs.bind ?_ (fun _ => ?_)
end Go.Proofs.Ytkemhfhmlcljjaa.PD
end
section
namespace Go.Proofs.Ytkemhfhmlcljjaa.DistPure
set_option linter.unusedVariables false
set_option linter.unusedSimpArgs false
open Go.RowKit Go.Proofs.Ytkemhfhmlcljjaa.PD Go.Proofs.YtkemhfhmlcljjaaW.PrintWords Go.Proofs.YtkemhfhmlcljjaaW.PrintLast Go.Proofs.YtkemhfhmlcljjaaW.PrintMore Go.Proofs.YtkemhfhmlcljjaaW.EvKit
theorem rdL1At {xs : List (List Int)} {i : Nat} (h : i < xs.length) : rd_L1 xs (i : Int) = xs[i] := by
  unfold rd_L1
  rw [Int.toNat_natCast, List.getD_eq_getElem?_getD, List.getElem?_eq_getElem h]; rfl
structure RD (d : List S32) : Prop where
  bd : Bd d
  wr : wrongP d = 0
theorem RD.right {d : List S32} (h : RD d) : Right d := right_of h.wr
theorem RD.pw {d : List S32} (h : RD d) : ∀ p ∈ d, 0 < p.f1 := (right_more h.wr).1
theorem RD.nn {d : List S32} (h : RD d) : ∀ p ∈ d, 0 ≤ p.f1 := fun p hp => Int.le_of_lt (h.pw p hp)
theorem RD.wF {d : List S32} (h : RD d) (o : List Int) (ho : o.length ≤ 1048576) : hushref2_Weight.F d o = some (wOf d o) := weightF d o ho h.bd.len h.bd.out h.nn (by have := h.right.few; omega)
theorem RD.tF {d : List S32} (h : RD d) : hushref2_Total.F d = some (totOf d) := rtotF d h.bd.len h.nn (by have := h.right.few; omega)
theorem RD.tD {d : List S32} (h : RD d) : dist_total.F d = some (totOf d) := totF d h.bd.len h.nn (by have := h.right.few; omega)
theorem RD.wbd {d : List S32} (h : RD d) (o : List Int) : 0 ≤ wOf d o ∧ wOf d o ≤ 1073741824 := by
  have := wOf_le h.nn o
  have := h.right.few
  omega
theorem outs1_loop (a b : List S32) (ha : RD a) (hb : Bd b) : ∀ (n i : Nat) (acc : List (List Int)), i + n = b.length → acc.length + n ≤ 4194304 →
    hushref2_Outs.L1 a acc b (b.length : Int) (i : Int) = some (acc ++ ((b.drop i).filter (fun p => decide (wOf a p.f0 = 0))).map (·.f0)) := by
  have hbl := hb.len
  intro n
  induction n with
  | zero =>
    intro i acc hi hl
    rw [hushref2_Outs.L1_eq, if_neg (by omega), List.drop_of_length_le (show b.length ≤ i by omega)]
    simp
  | succ n ih =>
    intro i acc hi hl
    have hxi : i < b.length := by omega
    rw [hushref2_Outs.L1_eq, if_pos (by omega), if_pos (by omega), if_pos (by omega), rd32At hxi, ha.wF _ (hb.out _ (mem_at hxi)), Option.bind_some, w1 (by omega), List.drop_eq_getElem_cons hxi]
    by_cases c : wOf a b[i].f0 = 0
    · rw [if_pos c, if_pos (by omega), ih (i + 1) _ (by omega) (by rw [List.length_append, List.length_singleton]; omega), List.filter_cons_of_pos (by simpa using c), List.map_cons, List.append_assoc]
      rfl
    · rw [if_neg c, ih (i + 1) _ (by omega) (by omega), List.filter_cons_of_neg (by simpa using c)]
theorem outs0_loop (a b : List S32) (ha : RD a) (hb : Bd b) : ∀ (n i : Nat) (acc : List (List Int)), i + n = a.length → acc.length + n ≤ 2097152 →
    hushref2_Outs.L0 a b acc a (a.length : Int) (i : Int) = some ((acc ++ (a.drop i).map (·.f0)) ++ (b.filter (fun p => decide (wOf a p.f0 = 0))).map (·.f0)) := by
  intro n
  induction n with
  | zero =>
    intro i acc hi hl
    have hbl := hb.len
    rw [hushref2_Outs.L0_eq, if_neg (by omega), List.drop_of_length_le (show a.length ≤ i by omega)]
    have h := outs1_loop a b ha hb b.length 0 acc (by omega) (by omega)
    rw [List.drop_zero] at h
    have h' : hushref2_Outs.L1 a acc b (b.length : Int) 0 = _ := h
    rw [h', List.map_nil, List.append_nil]
  | succ n ih =>
    intro i acc hi hl
    have hal := ha.bd.len
    have hxi : i < a.length := by omega
    rw [hushref2_Outs.L0_eq, if_pos (by omega), if_pos (by omega), if_pos (by omega), if_pos (by omega), rd32At hxi, w1 (by omega), ih (i + 1) _ (by omega) (by rw [List.length_append, List.length_singleton]; omega), List.drop_eq_getElem_cons hxi, List.map_cons, List.append_assoc acc]
    rfl
theorem outsF {a b : List S32} (ha : RD a) (hb : Bd b) : hushref2_Outs.F a b = some (outsL a b) := by
  have hal := ha.bd.len
  rw [hushref2_Outs.F_eq]
  have h := outs0_loop a b ha hb a.length 0 [] (by omega) (by simp; omega)
  rw [List.drop_zero, List.nil_append] at h
  exact h
theorem outs_len {a b : List S32} (ha : Bd a) (hb : Bd b) : (outsL a b).length ≤ 2097152 ∧ ∀ o ∈ outsL a b, o.length ≤ 1048576 := by
  have h1 := ha.len
  have h2 := hb.len
  constructor
  · unfold outsL
    rw [List.length_append, List.length_map, List.length_map]
    have := List.length_filter_le (fun p : S32 => decide (wOf a p.f0 = 0)) b
    omega
  · intro o ho
    rcases outs_mem ho with ⟨p, hp, rfl⟩ | ⟨p, hp, rfl⟩
    · exact ha.out p hp
    · exact hb.out p hp
structure Two (a b : List S32) : Prop where
  a : RD a
  b : RD b
theorem Two.ok {a b : List S32} (h : Two a b) (o : List Int) : pOk (pw a b o) := by
  have h1 := h.a.wbd o
  have h2 := h.b.wbd o
  exact ⟨h1.1, h1.2, h2.1, h2.2⟩
theorem Two.t {a b : List S32} (h : Two a b) : ∃ ta tb : Nat, totOf a = (ta : Int) ∧ totOf b = (tb : Int) ∧ 1 ≤ ta ∧ ta ≤ 1073741824 ∧ 1 ≤ tb ∧ tb ≤ 1073741824 := by
  have h1 := h.a.right
  have h2 := h.b.right
  refine ⟨(totOf a).toNat, (totOf b).toNat, ?_⟩
  have := h1.pos; have := h1.few; have := h2.pos; have := h2.few
  omega
theorem Two.perm {a b : List S32} (h : Two a b) : (pairsL a b).Perm ((outsL a b).map (pw a b)) := pairs_perm' h.a.right.st h.b.right.st h.a.pw
theorem Two.pok {a b : List S32} (h : Two a b) : ∀ x ∈ pairsL a b, pOk x := fun x hx => by
  obtain ⟨o, _, rfl⟩ := List.mem_map.1 (h.perm.mem_iff.1 hx)
  exact h.ok o
def rEnd (s : Nat × Nat) : Int × Int × Int := if s.1 / Nat.gcd s.1 s.2 > 1073741824 ∨ s.2 / Nat.gcd s.1 s.2 > 1073741824 then (0, 0, 4) else (((s.1 / Nat.gcd s.1 s.2 : Nat) : Int), ((s.2 / Nat.gcd s.1 s.2 : Nat) : Int), 0)
def rGo (ta tb : Nat) : List (Int × Int) → Nat × Nat → Int × Int × Int
  | [], s => rEnd s
  | x :: L, s => if x.1 = 0 ∨ x.2 = 0 then (0, 0, 6) else rGo ta tb L (rStep ta tb s x)
theorem rGo_no (ta tb : Nat) : ∀ (L : List (Int × Int)) (s : Nat × Nat), (∃ x ∈ L, ¬ pNo x) → rGo ta tb L s = (0, 0, 6)
  | [], s, h => by obtain ⟨x, hx, _⟩ := h; cases hx
  | x :: L, s, h => by
    rw [rGo]
    by_cases c : x.1 = 0 ∨ x.2 = 0
    · rw [if_pos c]
    · rw [if_neg c]
      refine rGo_no ta tb L _ ?_
      obtain ⟨y, hy, hn⟩ := h
      rcases List.mem_cons.1 hy with e | e
      · exact absurd ⟨fun z => c (.inl (by rw [← e]; exact z)), fun z => c (.inr (by rw [← e]; exact z))⟩ hn
      · exact ⟨y, e, hn⟩
theorem rGo_yes (ta tb : Nat) : ∀ (L : List (Int × Int)) (s : Nat × Nat), (∀ x ∈ L, pNo x) → rGo ta tb L s = rEnd (L.foldl (rStep ta tb) s)
  | [], s, _ => rfl
  | x :: L, s, h => by
    have hx := h x (by simp)
    rw [rGo, if_neg (fun c => c.elim hx.1 hx.2), List.foldl_cons]
    exact rGo_yes ta tb L _ (fun y hy => h y (by simp [hy]))
theorem rStep_ok {ta tb : Nat} {s : Nat × Nat} {x : Int × Int} (hs : sOk s) (hx : sOk (uv ta tb x)) : sOk (rStep ta tb s x) := by
  have hx' : sOk (uv ta tb x).swap := ⟨hx.2.2.1, hx.2.2.2, hx.1, hx.2.1⟩
  have key : ∀ s f : Nat × Nat, sOk s → sOk f → sOk (ins s f) := fun s f h1 h2 => by
    unfold ins
    split
    · exact h2
    · exact h1
  exact key _ _ (key _ _ hs hx) hx'
theorem rmoreF (u v x y : Nat) (hv : 1 ≤ v) (hy : 1 ≤ y) (b1 : u ≤ 1152921504606846976) (b2 : v ≤ 1152921504606846976) (b3 : x ≤ 1152921504606846976) (b4 : y ≤ 1152921504606846976) : hushref2_More.F (u : Int) (v : Int) (x : Int) (y : Int) = some (decide (x * v < u * y)) := by
  refine ((hushref2_More.F_is _ _ _ _).iff _).2 (rmore_is u v x y hv hy ?_ ?_ ?_ ?_) <;> omega
theorem uv_w {ta : Nat} {x : Int} (h0 : 0 ≤ x) (h1 : x ≤ 1073741824) (h2 : ta ≤ 1073741824) : wrap64 (x * (ta : Int)) = ((x.toNat * ta : Nat) : Int) := by
  have e : x * (ta : Int) = ((x.toNat * ta : Nat) : Int) := by rw [Int.natCast_mul, Int.toNat_of_nonneg h0]
  have h3 : x.toNat * ta ≤ 1073741824 * 1073741824 := Nat.mul_le_mul (by omega) h2
  rw [e, wrap64_of (by omega) (by omega)]
theorem mul_nz {x : Int} {t : Nat} (h0 : 0 ≤ x) (ht : 1 ≤ t) : ((x.toNat * t : Nat) : Int) = 0 ↔ x = 0 := by
  constructor
  · intro h
    have h' : x.toNat * t = 0 := by omega
    rcases Nat.mul_eq_zero.1 h' with c | c <;> omega
  · intro h
    rw [h]; simp
theorem rEndF (s : Nat × Nat) (hs : sOk s) : ((hushref1_Divisor.F (s.1 : Int) (s.2 : Int)).bind fun t => (if t = 0 then (none) else (if (wrap64 (Int.tdiv (s.1 : Int) t)) > 1073741824 then (some ((0 : Int), (0 : Int), (4 : Int))) else (if (wrap64 (Int.tdiv (s.2 : Int) t)) > 1073741824 then (some (0, 0, 4)) else (some (wrap64 (Int.tdiv (s.1 : Int) t), wrap64 (Int.tdiv (s.2 : Int) t), 0)))))) = some (rEnd s) := by
  obtain ⟨h1, h2, h3, h4⟩ := hs
  rw [divF (by omega) (by omega) (by omega) (by omega), Option.bind_some]
  have e : Int.gcd (s.1 : Int) (s.2 : Int) = Nat.gcd s.1 s.2 := rfl
  have hg : 1 ≤ Nat.gcd s.1 s.2 := Nat.gcd_pos_of_pos_left _ h1
  rw [e, if_neg (by omega), quot (by omega) (by omega), quot (by omega) (by omega)]
  unfold rEnd
  rw [← Int.natCast_ediv, ← Int.natCast_ediv]
  by_cases c1 : s.1 / Nat.gcd s.1 s.2 > 1073741824
  · rw [if_pos (by omega), if_pos (.inl c1)]
  · rw [if_neg (by omega)]
    by_cases c2 : s.2 / Nat.gcd s.1 s.2 > 1073741824
    · rw [if_pos (by omega), if_pos (.inr c2)]
    · rw [if_neg (by omega), if_neg (by omega)]
theorem rfar_loop {a b : List S32} (h : Two a b) (ta tb : Nat) (ea : totOf a = (ta : Int)) (eb : totOf b = (tb : Int)) (ha : 1 ≤ ta) (ha' : ta ≤ 1073741824) (hb : 1 ≤ tb) (hb' : tb ≤ 1073741824) (O : List (List Int)) (hO : O.length ≤ 2097152) (hOl : ∀ o ∈ O, o.length ≤ 1048576) : ∀ (n i : Nat) (s : Nat × Nat), i + n = O.length → sOk s →
    hushref2_Far.L0 a b (s.1 : Int) (s.2 : Int) O (O.length : Int) (i : Int) = some (rGo ta tb ((O.drop i).map (pw a b)) s) := by
  intro n
  induction n with
  | zero =>
    intro i s hi hs
    rw [hushref2_Far.L0_eq, if_neg (by omega), List.drop_of_length_le (show O.length ≤ i by omega), List.map_nil, rGo]
    exact rEndF s hs
  | succ n ih =>
    intro i s hi hs
    have hxi : i < O.length := by omega
    have hol := hOl _ (List.getElem_mem hxi)
    have hok := h.ok O[i]
    have hl := uv_bd (x := pw a b O[i]) ha ha' hb hb' hok
    rw [hushref2_Far.L0_eq, if_pos (by omega), if_pos (by omega), if_pos (by omega), rdL1At hxi, h.a.wF _ hol, Option.bind_some, h.b.tF, Option.bind_some, h.b.wF _ hol, Option.bind_some, h.a.tF, Option.bind_some, ea, eb, List.drop_eq_getElem_cons hxi, List.map_cons, rGo]
    have e1 : wrap64 (wOf a O[i] * (tb : Int)) = (((pw a b O[i]).1.toNat * tb : Nat) : Int) := uv_w hok.1 hok.2.1 hb'
    have e2 : wrap64 (wOf b O[i] * (ta : Int)) = (((pw a b O[i]).2.toNat * ta : Nat) : Int) := uv_w hok.2.2.1 hok.2.2.2 ha'
    rw [e1, e2]
    have z1 := mul_nz hok.1 hb
    have z2 := mul_nz hok.2.2.1 ha
    have next : ∀ f : Bool, f = decide ((pw a b O[i]).1 = 0 ∨ (pw a b O[i]).2 = 0) → hushref2_Far.J1 a b (s.1 : Int) (s.2 : Int) (((pw a b O[i]).1.toNat * tb : Nat) : Int) (((pw a b O[i]).2.toNat * ta : Nat) : Int) O (O.length : Int) (i : Int) f =
        some (if (pw a b O[i]).1 = 0 ∨ (pw a b O[i]).2 = 0 then (0, 0, 6) else rGo ta tb ((O.drop (i + 1)).map (pw a b)) (rStep ta tb s (pw a b O[i]))) := by
      intro f hf
      subst hf
      rw [hushref2_Far.J1_eq]
      by_cases c : (pw a b O[i]).1 = 0 ∨ (pw a b O[i]).2 = 0
      · rw [if_pos (decide_eq_true c), if_pos c]
      · rw [if_neg (by simpa using c), if_neg c]
        have hno : pNo (pw a b O[i]) := ⟨fun z => c (.inl z), fun z => c (.inr z)⟩
        obtain ⟨u1, u2, v1, v2⟩ := hl hno
        have hstep := rStep_ok hs (hl hno)
        have fin : ∀ s' : Nat × Nat, s' = rStep ta tb s (pw a b O[i]) → hushref2_Far.L0 a b (s'.1 : Int) (s'.2 : Int) O (O.length : Int) (wrap64 ((i : Int) + 1)) = some (rGo ta tb ((O.drop (i + 1)).map (pw a b)) (rStep ta tb s (pw a b O[i]))) := by
          intro s' e
          rw [w1 (by omega), e]
          exact ih (i + 1) _ (by omega) hstep
        unfold uv at u1 u2 v1 v2
        dsimp only at u1 u2 v1 v2
        have hr : rStep ta tb s (pw a b O[i]) = ins (ins s ((pw a b O[i]).1.toNat * tb, (pw a b O[i]).2.toNat * ta)) ((pw a b O[i]).2.toNat * ta, (pw a b O[i]).1.toNat * tb) := rfl
        rw [hr] at fin ⊢
        generalize (pw a b O[i]).1.toNat * tb = u at *
        generalize (pw a b O[i]).2.toNat * ta = v at *
        unfold ins at fin ⊢
        dsimp only at fin ⊢
        rw [rmoreF u v s.1 s.2 v1 hs.2.2.1 u2 v2 hs.2.1 hs.2.2.2, Option.bind_some]
        by_cases c1 : s.1 * v < u * s.2
        · rw [if_pos (decide_eq_true c1), rmoreF v u u v u1 v1 v2 u2 u2 v2, Option.bind_some]
          simp only [if_pos c1] at fin ⊢
          by_cases c2 : u * u < v * v
          · rw [if_pos (decide_eq_true c2)]
            simp only [if_pos c2] at fin ⊢
            exact fin (v, u) rfl
          · rw [if_neg (by simpa using c2)]
            simp only [if_neg c2] at fin ⊢
            exact fin (u, v) rfl
        · rw [if_neg (by simpa using c1), rmoreF v u s.1 s.2 u1 hs.2.2.1 v2 u2 hs.2.1 hs.2.2.2, Option.bind_some]
          simp only [if_neg c1] at fin ⊢
          by_cases c2 : s.1 * u < v * s.2
          · rw [if_pos (decide_eq_true c2)]
            simp only [if_pos c2] at fin ⊢
            exact fin (v, u) rfl
          · rw [if_neg (by simpa using c2)]
            simp only [if_neg c2] at fin ⊢
            exact fin s rfl
    by_cases c : (((pw a b O[i]).1.toNat * tb : Nat) : Int) = 0
    · rw [if_pos c]
      exact next true (decide_eq_true (.inl (z1.1 c))).symm
    · rw [if_neg c]
      refine next _ ?_
      show decide (_ = (0 : Int)) = decide _
      rw [decide_eq_decide, z2]
      exact ⟨fun z => .inr z, fun z => z.resolve_left (fun z => c (z1.2 z))⟩
def farP (a b : List S32) : Int × Int × Int := if wrongP a = 0 then (if wrongP b = 0 then farVal (totOf a) (totOf b) (pairsL a b) else (0, 0, wrongP b)) else (0, 0, wrongP a)
def wrongs2 (a b : List S32) : Int := if wrongP a = 0 then wrongP b else wrongP a
theorem wrongsF (a b : List S32) (ha : Bd a) (hb : Bd b) : dist_wrongs.F [a, b] = some (wrongs2 a b) := by
  unfold wrongs2
  rw [dist_wrongs.F_eq]
  have e0 : rd_L3 [a, b] 0 = a := rfl
  have e1 : rd_L3 [a, b] 1 = b := rfl
  have l2 : (([a, b].length : Nat) : Int) = 2 := rfl
  have x1 : wrap64 ((0 : Int) + 1) = 1 := by decide +kernel
  have x2 : wrap64 ((1 : Int) + 1) = 2 := by decide +kernel
  rw [l2, dist_wrongs.L0_eq, l2, if_pos (by decide), if_pos (by decide), if_pos (by decide), e0, wrongF a ha, Option.bind_some, x1]
  by_cases c : wrongP a = 0
  · rw [if_pos c, if_pos c, dist_wrongs.L0_eq, l2, if_pos (by decide), if_pos (by decide), if_pos (by decide), e1, wrongF b hb, Option.bind_some, x2]
    by_cases c2 : wrongP b = 0
    · rw [if_pos c2, dist_wrongs.L0_eq, if_neg (by decide), c2]
    · rw [if_neg c2]
  · rw [if_neg c, if_neg c]
theorem dSizeB {a : List S32} (h : Bd a) : dSize a = true := by
  have h1 := h.len
  unfold dSize
  rw [Bool.and_eq_true, decide_eq_true_eq, List.all_eq_true]
  exact ⟨by omega, fun p hp => by have := h.out p hp; exact decide_eq_true (by omega)⟩
theorem tIn_of {t : Int} (h : 1 ≤ t) (h2 : t ≤ 1073741824) : tIn t = true := by unfold tIn; simp [h, h2]
theorem xIn_of {x : Int × Int} (h : pOk x) : xIn x = true := by obtain ⟨h1, h2, h3, h4⟩ := h; unfold xIn; simp [h1, h2, h3, h4]
theorem farF (a b : List S32) (ha : Bd a) (hb : Bd b) : dist_Far.F a b = some (farP a b) := by
  rw [dist_Far.F_eq, wrongsF a b ha hb, Option.bind_some]
  unfold wrongs2 farP
  by_cases c : wrongP a = 0
  · rw [if_pos c, if_pos c]
    by_cases c2 : wrongP b = 0
    · have h : Two a b := ⟨⟨ha, c⟩, ⟨hb, c2⟩⟩
      have h1 := h.a.right
      have h2 := h.b.right
      have := h1.pos; have := h1.few; have := h2.pos; have := h2.few
      rw [if_pos c2, if_pos c2, h.a.tD, Option.bind_some, h.b.tD, Option.bind_some]
      rw [if_pos (by
        unfold dGuard
        rw [dSizeB ha, dSizeB hb, tIn_of (by omega) (by omega), tIn_of (by omega) (by omega)]
        simpa using fun x y hx => xIn_of (h.pok (x, y) hx))]
    · rw [if_neg c2, if_neg c2]
  · rw [if_neg c, if_neg c, if_neg c]
theorem rfarF (a b : List S32) (ha : Bd a) (hb : Bd b) : hushref2_Far.F a b = some (farP a b) := by
  rw [hushref2_Far.F_eq, rwrongF a ha, Option.bind_some]
  unfold farP
  by_cases c : wrongP a = 0
  · rw [if_pos c, if_pos c, rwrongF b hb, Option.bind_some]
    by_cases c2 : wrongP b = 0
    · have h : Two a b := ⟨⟨ha, c⟩, ⟨hb, c2⟩⟩
      obtain ⟨ta, tb, ea, eb, a1, a2, b1, b2⟩ := h.t
      obtain ⟨l1, l2⟩ := outs_len ha hb
      rw [if_pos c2, if_pos c2, outsF h.a hb, Option.bind_some]
      have hl := rfar_loop h ta tb ea eb a1 a2 b1 b2 (outsL a b) l1 l2 (outsL a b).length 0 (1, 1) (by omega) (by unfold sOk; omega)
      rw [List.drop_zero] at hl
      refine Eq.trans hl ?_
      congr 1
      rw [ea, eb]
      have hp := h.perm
      by_cases hn : ∀ x ∈ pairsL a b, pNo x
      · rw [farVal_yes hn, rGo_yes ta tb _ _ (fun x hx => hn x (hp.mem_iff.2 hx)), Int.toNat_natCast, Int.toNat_natCast]
        obtain ⟨q1, q2, q3, q4⟩ := both_mx a1 a2 b1 b2 hp (fun x hx => ⟨h.pok x hx, hn x hx⟩)
        obtain ⟨r1, r2, r3⟩ := red_eq q2 q3 q4 q1
        unfold rEnd farOut
        rw [r1, r2]
      · have hn' : ∃ x ∈ pairsL a b, ¬ pNo x := by simpa using hn
        rw [farVal_no hn', rGo_no]
        obtain ⟨x, hx, hxn⟩ := hn'
        exact ⟨x, hp.mem_iff.1 hx, hxn⟩
    · rw [if_neg c2, if_neg c2]
  · rw [if_neg c, if_neg c]
def apT (ta tb : Int) (x : Int × Int) : Int := mx 0 (x.1 * tb - x.2 * ta)
theorem apT_bd {ta tb : Int} (h1 : 0 ≤ ta) (h2 : 0 ≤ tb) {x : Int × Int} (h : pOk x) : 0 ≤ apT ta tb x ∧ apT ta tb x ≤ x.1 * tb := by
  have h3 := Int.mul_nonneg h.1 h2
  have h4 := Int.mul_nonneg h.2.2.1 h1
  unfold apT mx
  split <;> omega
theorem prod_bd {x t : Int} (h0 : 0 ≤ x) (h1 : x ≤ 1073741824) (t0 : 0 ≤ t) (t1 : t ≤ 1073741824) : 0 ≤ x * t ∧ x * t ≤ 1152921504606846976 := by
  have h2 := Int.mul_nonneg h0 t0
  have h3 := Int.mul_le_mul h1 t1 t0 (by omega : (0 : Int) ≤ 1073741824)
  omega
theorem apN_go {ta tb : Int} (h1 : 0 ≤ ta) (h1' : ta ≤ 1073741824) (h2 : 0 ≤ tb) (h2' : tb ≤ 1073741824) : ∀ (L : List (Int × Int)) (n : Int), (∀ x ∈ L, pOk x) → 0 ≤ n → n + isum (L.map (fun x => x.1 * tb)) ≤ 1152921504606846976 →
    L.foldl (apStep ta tb) n = n + isum (L.map (apT ta tb)) ∧ 0 ≤ isum (L.map (apT ta tb)) ∧ isum (L.map (apT ta tb)) ≤ isum (L.map (fun x => x.1 * tb))
  | [], n, _, _, _ => ⟨by simp [isum], by simp [isum], by simp [isum]⟩
  | x :: L, n, h, hn, hb => by
    have hx := h x (by simp)
    have ht := apT_bd h1 h2 hx
    have p1 := prod_bd hx.1 hx.2.1 h2 h2'
    have p2 := prod_bd hx.2.2.1 hx.2.2.2 h1 h1'
    rw [List.map_cons, isum] at hb
    have hs : ∀ (M : List (Int × Int)), (∀ x ∈ M, pOk x) → 0 ≤ isum (M.map (fun x => x.1 * tb)) := by
      intro M
      induction M with
      | nil => intro _; simp [isum]
      | cons y M ih =>
        intro hM
        rw [List.map_cons, isum]
        have := Int.mul_nonneg (hM y (by simp)).1 h2
        have := ih (fun z hz => hM z (by simp [hz]))
        omega
    have hs' := hs L (fun z hz => h z (by simp [hz]))
    have e : apStep ta tb n x = n + apT ta tb x := by
      unfold apStep apT at *
      generalize x.1 * tb = u at *
      generalize x.2 * ta = v at *
      rw [wrap64_of (x := u) (by omega) (by omega), wrap64_of (x := v) (by omega) (by omega), wrap64_of (x := u - v) (by omega) (by omega), wrap64_of (by omega) (by omega)]
    obtain ⟨i1, i2, i3⟩ := apN_go h1 h1' h2 h2' L (n + apT ta tb x) (fun z hz => h z (by simp [hz])) (by omega) (by omega)
    rw [List.foldl_cons, e, i1, List.map_cons, List.map_cons, isum, isum]
    exact ⟨by omega, by omega, by omega⟩
theorem isum_mul (t : Int) : ∀ (l : List Int), isum (l.map (fun x => x * t)) = isum l * t
  | [] => by simp [isum]
  | a :: l => by rw [List.map_cons, isum, isum, isum_mul t l, Int.add_mul]
theorem pairs_sum : ∀ (n : Nat) (a b : List S32), a.length + b.length ≤ n → isum ((pairsL a b).map (·.1)) = totOf a
  | n, [], [], _ => by rw [pairs_nil]; rfl
  | 0, _ :: _, _, h => by simp at h
  | 0, [], _ :: _, h => by simp at h
  | n + 1, [], q :: b, h => by
    rw [pairs_r, List.map_cons, isum, pairs_sum n [] b (by simp at h ⊢; omega)]
    exact Int.zero_add _
  | n + 1, p :: a, [], h => by
    rw [pairs_l, List.map_cons, isum, pairs_sum n a [] (by simp at h ⊢; omega), totOf_cons]
  | n + 1, p :: a, q :: b, h => by
    by_cases h1 : cmpL p.f0 q.f0 < 0
    · rw [pairs_lt _ _ h1, List.map_cons, isum, pairs_sum n a (q :: b) (by simp at h ⊢; omega), totOf_cons]
    · by_cases h2 : cmpL p.f0 q.f0 > 0
      · rw [pairs_gt _ _ h2, List.map_cons, isum, pairs_sum n (p :: a) b (by simp at h ⊢; omega)]
        exact Int.zero_add _
      · rw [pairs_eq _ _ (by omega), List.map_cons, isum, pairs_sum n a b (by simp at h ⊢; omega), totOf_cons]
theorem pairs_prod (a b : List S32) (tb : Int) : isum ((pairsL a b).map (fun x => x.1 * tb)) = totOf a * tb := by
  have h := isum_mul tb ((pairsL a b).map (·.1))
  rw [List.map_map, pairs_sum _ a b (Nat.le_refl _)] at h
  exact h
def apSum (a b : List S32) : Int := isum ((pairsL a b).map (apT (totOf a) (totOf b)))
theorem Two.sum {a b : List S32} (h : Two a b) : apN (totOf a) (totOf b) (pairsL a b) = apSum a b ∧ 0 ≤ apSum a b ∧ apSum a b ≤ totOf a * totOf b ∧ 1 ≤ totOf a * totOf b ∧ totOf a * totOf b ≤ 1152921504606846976 := by
  have h1 := h.a.right
  have h2 := h.b.right
  have := h1.pos; have := h1.few; have := h2.pos; have := h2.few
  have hp := prod_bd (x := totOf a) (t := totOf b) (by omega) (by omega) (by omega) (by omega)
  have hq : 1 ≤ totOf a * totOf b := Int.mul_pos (by omega) (by omega)
  have hg := apN_go (ta := totOf a) (tb := totOf b) (by omega) (by omega) (by omega) (by omega) (pairsL a b) 0 h.pok (Int.le_refl 0) (by rw [pairs_prod]; omega)
  rw [pairs_prod] at hg
  refine ⟨?_, hg.2.1, hg.2.2, hq, hp.2⟩
  have := hg.1
  rw [Int.zero_add] at this
  exact this
def apEnd (n all : Int) : Int × Int × Int := if all / (Int.gcd n all : Nat) > 1073741824 then (0, 0, 4) else (n / (Int.gcd n all : Nat), all / (Int.gcd n all : Nat), 0)
def apartP (a b : List S32) : Int × Int × Int := if wrongP a = 0 then (if wrongP b = 0 then apEnd (apSum a b) (totOf a * totOf b) else (0, 0, wrongP b)) else (0, 0, wrongP a)
theorem dgcdF {a b : Int} (ha : 0 ≤ a) (hb : 0 ≤ b) : dist_gcd.F a b = some ((Int.gcd b a : Nat) : Int) := by
  obtain ⟨x, rfl⟩ := Int.eq_ofNat_of_zero_le ha
  obtain ⟨y, rfl⟩ := Int.eq_ofNat_of_zero_le hb
  exact ((dist_gcd.F_is _ _).iff _).2 (gcd_is x y)
theorem apartF (a b : List S32) (ha : Bd a) (hb : Bd b) : dist_Apart.F a b = some (apartP a b) := by
  rw [dist_Apart.F_eq, wrongsF a b ha hb, Option.bind_some]
  unfold wrongs2 apartP
  by_cases c : wrongP a = 0
  · rw [if_pos c, if_pos c]
    by_cases c2 : wrongP b = 0
    · have h : Two a b := ⟨⟨ha, c⟩, ⟨hb, c2⟩⟩
      obtain ⟨s1, s2, s3, s4, s5⟩ := h.sum
      rw [if_pos c2, if_pos c2, h.a.tD, Option.bind_some, h.b.tD, Option.bind_some, if_pos (dSizeB ha), if_pos (dSizeB hb), s1]
      generalize apSum a b = n at *
      generalize totOf a * totOf b = all at *
      have hg := gcd_pos (u := n) (d := all) s4
      rw [wrap64_of (x := all) (by omega) (by omega), dgcdF (by omega) s2, Option.bind_some, if_neg (by omega), quot s2 (by omega), quot (by omega) (by omega)]
      congr 1
      unfold apOut apEnd
      have hle : n / (Int.gcd n all : Nat) ≤ all / (Int.gcd n all : Nat) := Int.ediv_le_ediv (by omega) s3
      by_cases c3 : all / (Int.gcd n all : Nat) > 1073741824
      · rw [if_pos (.inr c3), if_pos c3]
      · rw [if_neg (by omega), if_neg c3]
    · rw [if_neg c2, if_neg c2]
  · rw [if_neg c, if_neg c, if_neg c]
theorem rapart_loop {a b : List S32} (h : Two a b) (O : List (List Int)) (hO : O.length ≤ 2097152) (hOl : ∀ o ∈ O, o.length ≤ 1048576) : ∀ (n i : Nat) (s : Int), i + n = O.length → 0 ≤ s → s + isum (((O.drop i).map (pw a b)).map (apT (totOf a) (totOf b))) ≤ totOf a * totOf b →
    hushref2_Apart.L0 a b s O (O.length : Int) (i : Int) = some (apEnd (s + isum (((O.drop i).map (pw a b)).map (apT (totOf a) (totOf b)))) (totOf a * totOf b)) := by
  obtain ⟨s1, s2, s3, s4, s5⟩ := h.sum
  have h1 := h.a.right
  have h2 := h.b.right
  have ha1 := h1.pos; have ha2 := h1.few; have hb1 := h2.pos; have hb2 := h2.few
  intro n
  induction n with
  | zero =>
    intro i s hi h0 hle
    rw [hushref2_Apart.L0_eq, if_neg (by omega), List.drop_of_length_le (show O.length ≤ i by omega), List.map_nil, List.map_nil] 
    rw [List.drop_of_length_le (show O.length ≤ i by omega), List.map_nil, List.map_nil] at hle
    rw [isum, Int.add_zero] at hle ⊢
    rw [h.a.tF, Option.bind_some, h.b.tF, Option.bind_some]
    generalize totOf a * totOf b = all at *
    have hg := gcd_pos (u := s) (d := all) s4
    rw [wrap64_of (x := all) (by omega) (by omega), divF h0 s4 (by omega) (by omega), Option.bind_some, if_neg (by omega), quot h0 (by omega), quot (by omega) (by omega)]
    unfold apEnd
    split
    · rfl
    · rfl
  | succ n ih =>
    intro i s hi h0 hle
    have hxi : i < O.length := by omega
    have hol := hOl _ (List.getElem_mem hxi)
    have hok := h.ok O[i]
    have ht := apT_bd (ta := totOf a) (tb := totOf b) (by omega) (by omega) hok
    have p1 := prod_bd (t := totOf b) hok.1 hok.2.1 (by omega) (by omega)
    have p2 := prod_bd (t := totOf a) hok.2.2.1 hok.2.2.2 (by omega) (by omega)
    rw [List.drop_eq_getElem_cons hxi, List.map_cons, List.map_cons, isum] at hle ⊢
    have hrest : 0 ≤ isum (((O.drop (i + 1)).map (pw a b)).map (apT (totOf a) (totOf b))) := by
      refine isum_nonneg _ (fun y hy => ?_)
      obtain ⟨z, hz, rfl⟩ := List.mem_map.1 hy
      obtain ⟨o, _, rfl⟩ := List.mem_map.1 hz
      exact (apT_bd (by omega) (by omega) (h.ok o)).1
    rw [hushref2_Apart.L0_eq, if_pos (by omega), if_pos (by omega), if_pos (by omega), rdL1At hxi, h.a.wF _ hol, Option.bind_some, h.b.tF, Option.bind_some, h.b.wF _ hol, Option.bind_some, h.a.tF, Option.bind_some, w1 (by omega)]
    have e1 : wOf a O[i] * totOf b = (pw a b O[i]).1 * totOf b := rfl
    have e2 : wOf b O[i] * totOf a = (pw a b O[i]).2 * totOf a := rfl
    rw [e1, e2]
    have et : apT (totOf a) (totOf b) (pw a b O[i]) = mx 0 ((pw a b O[i]).1 * totOf b - (pw a b O[i]).2 * totOf a) := rfl
    generalize (pw a b O[i]).1 * totOf b = u at *
    generalize (pw a b O[i]).2 * totOf a = v at *
    rw [wrap64_of (x := u) (by omega) (by omega), wrap64_of (x := v) (by omega) (by omega), wrap64_of (x := u - v) (by omega) (by omega)]
    by_cases c : u - v > 0
    · have e3 : apT (totOf a) (totOf b) (pw a b O[i]) = u - v := by rw [et]; unfold mx; rw [if_pos c]
      rw [e3] at hle ⊢
      rw [if_pos c, wrap64_of (by omega) (by omega), ih (i + 1) (s + (u - v)) (by omega) (by omega) (by omega), Int.add_assoc]
    · have e3 : apT (totOf a) (totOf b) (pw a b O[i]) = 0 := by rw [et]; unfold mx; rw [if_neg (by omega)]
      rw [e3] at hle ⊢
      rw [if_neg c, ih (i + 1) s (by omega) h0 (by omega), Int.zero_add]
theorem rapartF (a b : List S32) (ha : Bd a) (hb : Bd b) : hushref2_Apart.F a b = some (apartP a b) := by
  rw [hushref2_Apart.F_eq, rwrongF a ha, Option.bind_some]
  unfold apartP
  by_cases c : wrongP a = 0
  · rw [if_pos c, if_pos c, rwrongF b hb, Option.bind_some]
    by_cases c2 : wrongP b = 0
    · have h : Two a b := ⟨⟨ha, c⟩, ⟨hb, c2⟩⟩
      obtain ⟨l1, l2⟩ := outs_len ha hb
      obtain ⟨s1, s2, s3, s4, s5⟩ := h.sum
      rw [if_pos c2, if_pos c2, outsF h.a hb, Option.bind_some]
      have e : isum (((outsL a b).map (pw a b)).map (apT (totOf a) (totOf b))) = apSum a b := (isum_perm (h.perm.map _)).symm
      have hl := rapart_loop h (outsL a b) l1 l2 (outsL a b).length 0 0 (by omega) (Int.le_refl 0) (by rw [List.drop_zero, e]; omega)
      rw [List.drop_zero, e, Int.zero_add] at hl
      exact hl
    · rw [if_neg c2, if_neg c2]
  · rw [if_neg c, if_neg c]
theorem ones (l : List Int) : (l.map (fun _ => 1)).sum = l.length := by
  induction l with
  | nil => rfl
  | cons a l ih => rw [List.map_cons, List.sum_cons, ih, List.length_cons]; omega
theorem bulk_bd : ∀ (l : List S32), l.length ≤ (l.map (fun z => ((((z.f0.map (fun _ => 1)).sum + 1) + 1) + 1))).sum ∧ ∀ p ∈ l, p.f0.length ≤ (l.map (fun z => ((((z.f0.map (fun _ => 1)).sum + 1) + 1) + 1))).sum
  | [] => ⟨by simp, by simp⟩
  | q :: l => by
    obtain ⟨h1, h2⟩ := bulk_bd l
    rw [List.map_cons, List.sum_cons, ones]
    refine ⟨by rw [List.length_cons]; omega, fun p hp => ?_⟩
    rcases List.mem_cons.1 hp with e | e
    · rw [e]; omega
    · have := h2 p e
      omega
end Go.Proofs.Ytkemhfhmlcljjaa.DistPure
namespace Go.Proofs.Ytkemhfhmlcljjaa.Pure
set_option linter.unusedVariables false
open Go.RowKit Go.Proofs.Ytkemhfhmlcljjaa.PD Go.Proofs.YtkemhfhmlcljjaaW.PrintWords Go.Proofs.YtkemhfhmlcljjaaW.PrintLast Go.Proofs.YtkemhfhmlcljjaaW.PrintMore Go.Proofs.YtkemhfhmlcljjaaW.EvKit Go.Proofs.Ytkemhfhmlcljjaa.DistPure
theorem DistFars : hushlaw2_DistFars.Pure := by
  intro p0 p1 _ _ hb
  have b0 := bulk_bd p0
  have b1 := bulk_bd p1
  have h0 : Bd p0 := ⟨by omega, fun p hp => by have := b0.2 p hp; omega⟩
  have h1 : Bd p1 := ⟨by omega, fun p hp => by have := b1.2 p hp; omega⟩
  clear hb b0 b1
  refine (hushlaw2_DistFars.F_is p0 p1).rounds ?_
  rw [hushlaw2_DistFars.F_eq, farF p0 p1 h0 h1, Option.bind_some, rfarF p0 p1 h0 h1, Option.bind_some, if_neg (by simp), bne_self_eq_false]
  rw [hushlaw2_DistFars.J0_eq, if_neg (by decide), apartF p0 p1 h0 h1, Option.bind_some, rapartF p0 p1 h0 h1, Option.bind_some, if_pos (by simp), beq_self_eq_true]
end Go.Proofs.Ytkemhfhmlcljjaa.Pure
end

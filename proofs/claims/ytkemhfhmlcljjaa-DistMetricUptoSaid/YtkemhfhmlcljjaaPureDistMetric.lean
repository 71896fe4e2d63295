/- The pure texts of this claim, its functions behind all rounds among them, and small steps. Conditions stand in each theorem. -/
import Derived.Test.YtkemhfhmlcljjaaPEx6
import Derived.Test.YtkemhfhmlcljjaaLim
import Derived.Test.YtkemhfhmlcljjaaPEx0
import Derived.Test.YtkemhfhmlcljjaaPEx3
import Derived.Test.YtkemhfhmlcljjaaPEx5
import Derived.Test.YtkemhfhmlcljjaaPEx4
import Derived.Test.YtkemhfhmlcljjaaPEx12
import Derived.Test.YtkemhfhmlcljjaaPEx11
import Derived.Test.YtkemhfhmlcljjaaPEx10
import Derived.Test.YtkemhfhmlcljjaaPEx7
import Derived.Test.YtkemhfhmlcljjaaPEx2
import Derived.Test.YtkemhfhmlcljjaaPEx9
import Derived.Test.YtkemhfhmlcljjaaPEx8
import Derived.Test.YtkemhfhmlcljjaaPEx13
import Derived.Test.YtkemhfhmlcljjaaPEx1
section
namespace Go.Proofs.Ytkemhfhmlcljjaa.PE
open Go.RowKit Go.Proofs.YtkemhfhmlcljjaaW.PrintWords Go.Proofs.YtkemhfhmlcljjaaW.PrintLast Go.Proofs.YtkemhfhmlcljjaaW.PrintMore
open Go.Proofs.YtkemhfhmlcljjaaW.EvKit
set_option linter.unusedVariables false
end Go.Proofs.Ytkemhfhmlcljjaa.PE
end
section
namespace Go.Proofs.Ytkemhfhmlcljjaa.PE
open Go.RowKit Go.Proofs.YtkemhfhmlcljjaaW.PrintWords Go.Proofs.YtkemhfhmlcljjaaW.PrintLast Go.Proofs.YtkemhfhmlcljjaaW.PrintMore
open Go.Proofs.YtkemhfhmlcljjaaW.EvKit
set_option linter.unusedVariables false
noncomputable def slices_IndexFunc_int_int.L0 (x0 : List Int) (x7 : Int) (x8 : Int) : Option (Int) := lim (fun k => slices_IndexFunc_int_int.l0 k x0 x7 x8)
theorem slices_IndexFunc_int_int.L0_is (x0 : List Int) (x7 : Int) (x8 : Int) : LimIs (fun k => slices_IndexFunc_int_int.l0 k x0 x7 x8) (slices_IndexFunc_int_int.L0 x0 x7 x8) := ⟨fun k => (slices_IndexFunc_int_int.mono_l k) x0 x7 x8, rfl⟩
noncomputable def slices_Equal_int_int.L0 (x0 : List Int) (x1 : List Int) (x12 : Int) (x13 : Int) : Option (Bool) := lim (fun k => slices_Equal_int_int.l0 k x0 x1 x12 x13)
theorem slices_Equal_int_int.L0_is (x0 : List Int) (x1 : List Int) (x12 : Int) (x13 : Int) : LimIs (fun k => slices_Equal_int_int.l0 k x0 x1 x12 x13) (slices_Equal_int_int.L0 x0 x1 x12 x13) := ⟨fun k => (slices_Equal_int_int.mono_l k) x0 x1 x12 x13, rfl⟩
noncomputable def slices_IndexFunc_int_int.F (l0 : List Int) (a1 : Int) : Option (Int) := lim (fun k => slices_IndexFunc_int_int.f k l0 a1)
theorem slices_IndexFunc_int_int.F_is (l0 : List Int) (a1 : Int) : LimIs (fun k => slices_IndexFunc_int_int.f k l0 a1) (slices_IndexFunc_int_int.F l0 a1) := ⟨fun k => slices_IndexFunc_int_int.mono l0 a1 k, rfl⟩
noncomputable def slices_ContainsFunc_int_int.F (l0 : List Int) (a1 : Int) : Option (Bool) := lim (fun k => slices_ContainsFunc_int_int.f k l0 a1)
theorem slices_ContainsFunc_int_int.F_is (l0 : List Int) (a1 : Int) : LimIs (fun k => slices_ContainsFunc_int_int.f k l0 a1) (slices_ContainsFunc_int_int.F l0 a1) := ⟨fun k => slices_ContainsFunc_int_int.mono l0 a1 k, rfl⟩
noncomputable def dist_small.F (l0 : List Int) : Option (Bool) := lim (fun k => dist_small.f k l0)
theorem dist_small.F_is (l0 : List Int) : LimIs (fun k => dist_small.f k l0) (dist_small.F l0) := ⟨fun k => dist_small.mono l0 k, rfl⟩
noncomputable def slices_Equal_int_int.F (l0 : List Int) (l1 : List Int) : Option (Bool) := lim (fun k => slices_Equal_int_int.f k l0 l1)
theorem slices_Equal_int_int.F_is (l0 : List Int) (l1 : List Int) : LimIs (fun k => slices_Equal_int_int.f k l0 l1) (slices_Equal_int_int.F l0 l1) := ⟨fun k => slices_Equal_int_int.mono l0 l1 k, rfl⟩
set_option maxRecDepth 100000 in
theorem slices_IndexFunc_int_int.L0_eq (x0 : List Int) (x7 : Int) (x8 : Int) : slices_IndexFunc_int_int.L0 x0 x7 x8 = if x8 < x7 then (if 0 ≤ x8 then (if x8 < (x0.length : Int) then ((dist_small_1.f (rd x0 x8)).bind fun t111 => (if t111 = true then (some x8) else (slices_IndexFunc_int_int.L0 x0 x7 (wrap64 (x8 + 1))))) else (none)) else (none)) else (some (-1)) := by
  refine LimIs.step' (slices_IndexFunc_int_int.L0_is x0 x7 x8).1 (b := fun k => if x8 < x7 then (if 0 ≤ x8 then (if x8 < (x0.length : Int) then ((dist_small_1.f (rd x0 x8)).bind fun t111 => (if t111 = true then (some x8) else (slices_IndexFunc_int_int.l0 k x0 x7 (wrap64 (x8 + 1))))) else (none)) else (none)) else (some (-1))) (fun k => by first | rfl | rw [slices_IndexFunc_int_int.l0]) ?_
  repeat' first
    | (with_reducible exact slices_IndexFunc_int_int.L0_is _ _ _)
    | (with_reducible exact LimIs.const _)
    | (with_reducible refine LimIs.ite ?_ ?_)
    | (with_reducible refine LimIs.bind ?_ (fun _ => ?_))
    | exact slices_IndexFunc_int_int.L0_is _ _ _
    | exact LimIs.const _
    | refine LimIs.ite ?_ ?_
    | refine LimIs.bind ?_ (fun _ => ?_)
set_option maxRecDepth 100000 in
theorem slices_Equal_int_int.L0_eq (x0 : List Int) (x1 : List Int) (x12 : Int) (x13 : Int) : slices_Equal_int_int.L0 x0 x1 x12 x13 = if x13 < x12 then (if 0 ≤ x13 then (if x13 < (x0.length : Int) then (if x13 < (x1.length : Int) then (if (rd x0 x13) = (rd x1 x13) then (slices_Equal_int_int.L0 x0 x1 x12 (wrap64 (x13 + 1))) else (some false)) else (none)) else (none)) else (none)) else (some true) := by
  refine LimIs.step' (slices_Equal_int_int.L0_is x0 x1 x12 x13).1 (b := fun k => if x13 < x12 then (if 0 ≤ x13 then (if x13 < (x0.length : Int) then (if x13 < (x1.length : Int) then (if (rd x0 x13) = (rd x1 x13) then (slices_Equal_int_int.l0 k x0 x1 x12 (wrap64 (x13 + 1))) else (some false)) else (none)) else (none)) else (none)) else (some true)) (fun k => by first | rfl | rw [slices_Equal_int_int.l0]) ?_
  repeat' first
    | (with_reducible exact slices_Equal_int_int.L0_is _ _ _ _)
    | (with_reducible exact LimIs.const _)
    | (with_reducible refine LimIs.ite ?_ ?_)
    | (with_reducible refine LimIs.bind ?_ (fun _ => ?_))
    | exact slices_Equal_int_int.L0_is _ _ _ _
    | exact LimIs.const _
    | refine LimIs.ite ?_ ?_
    | refine LimIs.bind ?_ (fun _ => ?_)
set_option maxRecDepth 100000 in
theorem slices_IndexFunc_int_int.F_eq (l0 : List Int) (a1 : Int) : slices_IndexFunc_int_int.F l0 a1 = slices_IndexFunc_int_int.L0 l0 (l0.length : Int) 0 := by
  refine LimIs.out (?_ : LimIs (fun k => slices_IndexFunc_int_int.l0 k l0 (l0.length : Int) 0) _)
  repeat' first
    | (with_reducible exact slices_IndexFunc_int_int.L0_is _ _ _)
    | (with_reducible exact LimIs.const _)
    | (with_reducible refine LimIs.ite ?_ ?_)
    | (with_reducible refine LimIs.bind ?_ (fun _ => ?_))
    | exact slices_IndexFunc_int_int.L0_is _ _ _
    | exact LimIs.const _
    | refine LimIs.ite ?_ ?_
    | refine LimIs.bind ?_ (fun _ => ?_)
set_option maxRecDepth 100000 in
theorem slices_ContainsFunc_int_int.F_eq (l0 : List Int) (a1 : Int) : slices_ContainsFunc_int_int.F l0 a1 = (slices_IndexFunc_int_int.F l0 a1).bind fun t112 => (some (decide (t112 ≥ 0))) := by
  refine LimIs.out (?_ : LimIs (fun k => (slices_IndexFunc_int_int.f k l0 a1).bind fun t112 => (some (decide (t112 ≥ 0)))) _)
  repeat' first
    | (with_reducible exact slices_IndexFunc_int_int.F_is _ _)
    | (with_reducible exact LimIs.const _)
    | (with_reducible refine LimIs.ite ?_ ?_)
    | (with_reducible refine LimIs.bind ?_ (fun _ => ?_))
    | exact slices_IndexFunc_int_int.F_is _ _
    | exact LimIs.const _
    | refine LimIs.ite ?_ ?_
    | refine LimIs.bind ?_ (fun _ => ?_)
set_option maxRecDepth 100000 in
theorem dist_small.F_eq (l0 : List Int) : dist_small.F l0 = if (l0.length : Int) ≤ 16 then ((slices_ContainsFunc_int_int.F l0 990000076).bind fun t113 => (some (!t113))) else (some false) := by
  refine LimIs.out (?_ : LimIs (fun k => if (l0.length : Int) ≤ 16 then ((slices_ContainsFunc_int_int.f k l0 990000076).bind fun t113 => (some (!t113))) else (some false)) _)
  repeat' first
    | (with_reducible exact slices_ContainsFunc_int_int.F_is _ _)
    | (with_reducible exact LimIs.const _)
    | (with_reducible refine LimIs.ite ?_ ?_)
    | (with_reducible refine LimIs.bind ?_ (fun _ => ?_))
    | exact slices_ContainsFunc_int_int.F_is _ _
    | exact LimIs.const _
    | refine LimIs.ite ?_ ?_
    | refine LimIs.bind ?_ (fun _ => ?_)
set_option maxRecDepth 100000 in
theorem slices_Equal_int_int.F_eq (l0 : List Int) (l1 : List Int) : slices_Equal_int_int.F l0 l1 = if (l0.length : Int) = (l1.length : Int) then (slices_Equal_int_int.L0 l0 l1 (l0.length : Int) 0) else (some false) := by
  refine LimIs.out (?_ : LimIs (fun k => if (l0.length : Int) = (l1.length : Int) then (slices_Equal_int_int.l0 k l0 l1 (l0.length : Int) 0) else (some false)) _)
  repeat' first
    | (with_reducible exact slices_Equal_int_int.L0_is _ _ _ _)
    | (with_reducible exact LimIs.const _)
    | (with_reducible refine LimIs.ite ?_ ?_)
    | (with_reducible refine LimIs.bind ?_ (fun _ => ?_))
    | exact slices_Equal_int_int.L0_is _ _ _ _
    | exact LimIs.const _
    | refine LimIs.ite ?_ ?_
    | refine LimIs.bind ?_ (fun _ => ?_)
end Go.Proofs.Ytkemhfhmlcljjaa.PE
end
section
namespace Go.Proofs.Ytkemhfhmlcljjaa.PE
open Go.RowKit Go.Proofs.YtkemhfhmlcljjaaW.PrintWords Go.Proofs.YtkemhfhmlcljjaaW.PrintLast Go.Proofs.YtkemhfhmlcljjaaW.PrintMore
open Go.Proofs.YtkemhfhmlcljjaaW.EvKit
set_option linter.unusedVariables false
noncomputable def dist_total.L0 (x3 : Int) (x6 : List (S32)) (x7 : Int) (x8 : Int) : Option (Int) := lim (fun k => dist_total.l0 k x3 x6 x7 x8)
theorem dist_total.L0_is (x3 : Int) (x6 : List (S32)) (x7 : Int) (x8 : Int) : LimIs (fun k => dist_total.l0 k x3 x6 x7 x8) (dist_total.L0 x3 x6 x7 x8) := ⟨fun k => (dist_total.mono_l k) x3 x6 x7 x8, rfl⟩
noncomputable def dist_gcd.L0 (x0 : Int) (x1 : Int) : Option (Int) := lim (fun k => dist_gcd.l0 k x0 x1)
theorem dist_gcd.L0_is (x0 : Int) (x1 : Int) : LimIs (fun k => dist_gcd.l0 k x0 x1) (dist_gcd.L0 x0 x1) := ⟨fun k => (dist_gcd.mono_l k) x0 x1, rfl⟩
noncomputable def slices_Compare_int_int.L0 (x0 : List Int) (x1 : List Int) (x9 : List Int) (x10 : Int) (x11 : Int) : Option (Int) := lim (fun k => slices_Compare_int_int.l0 k x0 x1 x9 x10 x11)
theorem slices_Compare_int_int.L0_is (x0 : List Int) (x1 : List Int) (x9 : List Int) (x10 : Int) (x11 : Int) : LimIs (fun k => slices_Compare_int_int.l0 k x0 x1 x9 x10 x11) (slices_Compare_int_int.L0 x0 x1 x9 x10 x11) := ⟨fun k => (slices_Compare_int_int.mono_l k) x0 x1 x9 x10 x11, rfl⟩
noncomputable def dist_total.F (l0 : List (S32)) : Option (Int) := lim (fun k => dist_total.f k l0)
theorem dist_total.F_is (l0 : List (S32)) : LimIs (fun k => dist_total.f k l0) (dist_total.F l0) := ⟨fun k => dist_total.mono l0 k, rfl⟩
noncomputable def dist_gcd.F (a0 : Int) (a1 : Int) : Option (Int) := lim (fun k => dist_gcd.f k a0 a1)
theorem dist_gcd.F_is (a0 : Int) (a1 : Int) : LimIs (fun k => dist_gcd.f k a0 a1) (dist_gcd.F a0 a1) := ⟨fun k => dist_gcd.mono a0 a1 k, rfl⟩
noncomputable def slices_Compare_int_int.F (l0 : List Int) (l1 : List Int) : Option (Int) := lim (fun k => slices_Compare_int_int.f k l0 l1)
theorem slices_Compare_int_int.F_is (l0 : List Int) (l1 : List Int) : LimIs (fun k => slices_Compare_int_int.f k l0 l1) (slices_Compare_int_int.F l0 l1) := ⟨fun k => slices_Compare_int_int.mono l0 l1 k, rfl⟩
set_option maxRecDepth 100000 in
theorem dist_total.L0_eq (x3 : Int) (x6 : List (S32)) (x7 : Int) (x8 : Int) : dist_total.L0 x3 x6 x7 x8 = if x8 < x7 then (if 0 ≤ x8 then (if x8 < (x6.length : Int) then (dist_total.L0 (wrap64 (x3 + ((rd_T32 x6 x8).f1))) x6 x7 (wrap64 (x8 + 1))) else (none)) else (none)) else (some x3) := by
  refine LimIs.step' (dist_total.L0_is x3 x6 x7 x8).1 (b := fun k => if x8 < x7 then (if 0 ≤ x8 then (if x8 < (x6.length : Int) then (dist_total.l0 k (wrap64 (x3 + ((rd_T32 x6 x8).f1))) x6 x7 (wrap64 (x8 + 1))) else (none)) else (none)) else (some x3)) (fun k => by first | rfl | rw [dist_total.l0]) ?_
  repeat' first
    | (with_reducible exact dist_total.L0_is _ _ _ _)
    | (with_reducible exact LimIs.const _)
    | (with_reducible refine LimIs.ite ?_ ?_)
    | (with_reducible refine LimIs.bind ?_ (fun _ => ?_))
    | exact dist_total.L0_is _ _ _ _
    | exact LimIs.const _
    | refine LimIs.ite ?_ ?_
    | refine LimIs.bind ?_ (fun _ => ?_)
set_option maxRecDepth 100000 in
theorem dist_gcd.L0_eq (x0 : Int) (x1 : Int) : dist_gcd.L0 x0 x1 = if x1 = 0 then (some x0) else (dist_gcd.L0 x1 (Int.tmod x0 x1)) := by
  refine LimIs.step' (dist_gcd.L0_is x0 x1).1 (b := fun k => if x1 = 0 then (some x0) else (dist_gcd.l0 k x1 (Int.tmod x0 x1))) (fun k => by first | rfl | rw [dist_gcd.l0]) ?_
  repeat' first
    | (with_reducible exact dist_gcd.L0_is _ _)
    | (with_reducible exact LimIs.const _)
    | (with_reducible refine LimIs.ite ?_ ?_)
    | (with_reducible refine LimIs.bind ?_ (fun _ => ?_))
    | exact dist_gcd.L0_is _ _
    | exact LimIs.const _
    | refine LimIs.ite ?_ ?_
    | refine LimIs.bind ?_ (fun _ => ?_)
set_option maxRecDepth 100000 in
theorem slices_Compare_int_int.L0_eq (x0 : List Int) (x1 : List Int) (x9 : List Int) (x10 : Int) (x11 : Int) : slices_Compare_int_int.L0 x0 x1 x9 x10 x11 = if x11 < x10 then (if 0 ≤ x11 then (if x11 < (x9.length : Int) then (if x11 ≥ (x1.length : Int) then (some 1) else (if x11 < (x1.length : Int) then ((cmp_Compare_int.f (rd x9 x11) (rd x1 x11)).bind fun t122 => (if t122 = 0 then (slices_Compare_int_int.L0 x0 x1 x9 x10 (wrap64 (x11 + 1))) else (some t122))) else (none))) else (none)) else (none)) else (if (x0.length : Int) < (x1.length : Int) then (some (-1)) else (some 0)) := by
  refine LimIs.step' (slices_Compare_int_int.L0_is x0 x1 x9 x10 x11).1 (b := fun k => if x11 < x10 then (if 0 ≤ x11 then (if x11 < (x9.length : Int) then (if x11 ≥ (x1.length : Int) then (some 1) else (if x11 < (x1.length : Int) then ((cmp_Compare_int.f (rd x9 x11) (rd x1 x11)).bind fun t122 => (if t122 = 0 then (slices_Compare_int_int.l0 k x0 x1 x9 x10 (wrap64 (x11 + 1))) else (some t122))) else (none))) else (none)) else (none)) else (if (x0.length : Int) < (x1.length : Int) then (some (-1)) else (some 0))) (fun k => by first | rfl | rw [slices_Compare_int_int.l0]) ?_
  repeat' first
    | (with_reducible exact slices_Compare_int_int.L0_is _ _ _ _ _)
    | (with_reducible exact LimIs.const _)
    | (with_reducible refine LimIs.ite ?_ ?_)
    | (with_reducible refine LimIs.bind ?_ (fun _ => ?_))
    | exact slices_Compare_int_int.L0_is _ _ _ _ _
    | exact LimIs.const _
    | refine LimIs.ite ?_ ?_
    | refine LimIs.bind ?_ (fun _ => ?_)
set_option maxRecDepth 100000 in
theorem dist_total.F_eq (l0 : List (S32)) : dist_total.F l0 = dist_total.L0 0 l0 (l0.length : Int) 0 := by
  refine LimIs.out (?_ : LimIs (fun k => dist_total.l0 k 0 l0 (l0.length : Int) 0) _)
  repeat' first
    | (with_reducible exact dist_total.L0_is _ _ _ _)
    | (with_reducible exact LimIs.const _)
    | (with_reducible refine LimIs.ite ?_ ?_)
    | (with_reducible refine LimIs.bind ?_ (fun _ => ?_))
    | exact dist_total.L0_is _ _ _ _
    | exact LimIs.const _
    | refine LimIs.ite ?_ ?_
    | refine LimIs.bind ?_ (fun _ => ?_)
set_option maxRecDepth 100000 in
theorem dist_gcd.F_eq (a0 : Int) (a1 : Int) : dist_gcd.F a0 a1 = dist_gcd.L0 a0 a1 := by
  refine LimIs.out (?_ : LimIs (fun k => dist_gcd.l0 k a0 a1) _)
  repeat' first
    | (with_reducible exact dist_gcd.L0_is _ _)
    | (with_reducible exact LimIs.const _)
    | (with_reducible refine LimIs.ite ?_ ?_)
    | (with_reducible refine LimIs.bind ?_ (fun _ => ?_))
    | exact dist_gcd.L0_is _ _
    | exact LimIs.const _
    | refine LimIs.ite ?_ ?_
    | refine LimIs.bind ?_ (fun _ => ?_)
set_option maxRecDepth 100000 in
theorem slices_Compare_int_int.F_eq (l0 : List Int) (l1 : List Int) : slices_Compare_int_int.F l0 l1 = slices_Compare_int_int.L0 l0 l1 l0 (l0.length : Int) 0 := by
  refine LimIs.out (?_ : LimIs (fun k => slices_Compare_int_int.l0 k l0 l1 l0 (l0.length : Int) 0) _)
  repeat' first
    | (with_reducible exact slices_Compare_int_int.L0_is _ _ _ _ _)
    | (with_reducible exact LimIs.const _)
    | (with_reducible refine LimIs.ite ?_ ?_)
    | (with_reducible refine LimIs.bind ?_ (fun _ => ?_))
    | exact slices_Compare_int_int.L0_is _ _ _ _ _
    | exact LimIs.const _
    | refine LimIs.ite ?_ ?_
    | refine LimIs.bind ?_ (fun _ => ?_)
end Go.Proofs.Ytkemhfhmlcljjaa.PE
end
section
namespace Go.Proofs.Ytkemhfhmlcljjaa.PE
open Go.RowKit Go.Proofs.YtkemhfhmlcljjaaW.PrintWords Go.Proofs.YtkemhfhmlcljjaaW.PrintLast Go.Proofs.YtkemhfhmlcljjaaW.PrintMore
open Go.Proofs.YtkemhfhmlcljjaaW.EvKit
set_option linter.unusedVariables false
noncomputable def dist_tidy.F (l0 : List S32) : Option (List S32 × Int) := lim (fun k => dist_tidy.f k l0)
theorem dist_tidy.F_is (l0 : List S32) : LimIs (fun k => dist_tidy.f k l0) (dist_tidy.F l0) := ⟨fun k => dist_tidy.mono l0 k, rfl⟩
set_option maxRecDepth 100000 in
theorem dist_tidy.F_eq (l0 : List S32) : dist_tidy.F l0 = if tGuard l0 = true then some (tDone (tMerge (sortP l0))) else none := by
  refine LimIs.out (?_ : LimIs (fun k => if tGuard l0 = true then some (tDone (tMerge (sortP l0))) else none) _)
  repeat' first
    | (with_reducible exact LimIs.const _)
    | (with_reducible refine LimIs.ite ?_ ?_)
    | (with_reducible refine LimIs.bind ?_ (fun _ => ?_))
    | exact LimIs.const _
    | refine LimIs.ite ?_ ?_
    | refine LimIs.bind ?_ (fun _ => ?_)
end Go.Proofs.Ytkemhfhmlcljjaa.PE
end
section
namespace Go.Proofs.Ytkemhfhmlcljjaa.PE
open Go.RowKit Go.Proofs.YtkemhfhmlcljjaaW.PrintWords Go.Proofs.YtkemhfhmlcljjaaW.PrintLast Go.Proofs.YtkemhfhmlcljjaaW.PrintMore
open Go.Proofs.YtkemhfhmlcljjaaW.EvKit
set_option linter.unusedVariables false
noncomputable def dist_Make.L0 (x4 : List (S32)) (x7 : List (S32)) (x8 : Int) (x9 : Int) : Option ((List (S32)) × Int) := lim (fun k => dist_Make.l0 k x4 x7 x8 x9)
theorem dist_Make.L0_is (x4 : List (S32)) (x7 : List (S32)) (x8 : Int) (x9 : Int) : LimIs (fun k => dist_Make.l0 k x4 x7 x8 x9) (dist_Make.L0 x4 x7 x8 x9) := ⟨fun k => (dist_Make.mono_l k) x4 x7 x8 x9, rfl⟩
noncomputable def dist_Make.F (l0 : List (S32)) : Option ((List (S32)) × Int) := lim (fun k => dist_Make.f k l0)
theorem dist_Make.F_is (l0 : List (S32)) : LimIs (fun k => dist_Make.f k l0) (dist_Make.F l0) := ⟨fun k => dist_Make.mono l0 k, rfl⟩
noncomputable def dist_Sure.F (l0 : List Int) : Option ((List (S32)) × Int) := lim (fun k => dist_Sure.f k l0)
theorem dist_Sure.F_is (l0 : List Int) : LimIs (fun k => dist_Sure.f k l0) (dist_Sure.F l0) := ⟨fun k => dist_Sure.mono l0 k, rfl⟩
noncomputable def hushlaw2_alive.F : Option (Bool) := lim (fun k => hushlaw2_alive.f k)
theorem hushlaw2_alive.F_is : LimIs (fun k => hushlaw2_alive.f k) (hushlaw2_alive.F) := ⟨fun k => hushlaw2_alive.mono k, rfl⟩
set_option maxRecDepth 100000 in
theorem dist_Make.L0_eq (x4 : List (S32)) (x7 : List (S32)) (x8 : Int) (x9 : Int) : dist_Make.L0 x4 x7 x8 x9 = if x9 < x8 then (if 0 ≤ x9 then (if x9 < (x7.length : Int) then ((dist_small.F ((rd_T32 x7 x9).f0)).bind fun t129 => (if t129 = true then (if ((rd_T32 x7 x9).f1) < 0 then (some (([] : List (S32)), 3)) else (if ((rd_T32 x7 x9).f1) > 1073741824 then (some (([] : List (S32)), 3)) else ((slices_Clone_int_int.f ((rd_T32 x7 x9).f0)).bind fun t130 => (if x4.length < 4398046511104 then (dist_Make.L0 (x4 ++ [(⟨t130, (rd_T32 x7 x9).f1⟩ : S32)]) x7 x8 (wrap64 (x9 + 1))) else (none))))) else (some (([] : List (S32)), 3)))) else (none)) else (none)) else ((dist_tidy.F x4).bind fun bt123 => (some (bt123.1, bt123.2))) := by
  refine LimIs.step' (dist_Make.L0_is x4 x7 x8 x9).1 (b := fun k => if x9 < x8 then (if 0 ≤ x9 then (if x9 < (x7.length : Int) then ((dist_small.f k ((rd_T32 x7 x9).f0)).bind fun t129 => (if t129 = true then (if ((rd_T32 x7 x9).f1) < 0 then (some (([] : List (S32)), 3)) else (if ((rd_T32 x7 x9).f1) > 1073741824 then (some (([] : List (S32)), 3)) else ((slices_Clone_int_int.f ((rd_T32 x7 x9).f0)).bind fun t130 => (if x4.length < 4398046511104 then (dist_Make.l0 k (x4 ++ [(⟨t130, (rd_T32 x7 x9).f1⟩ : S32)]) x7 x8 (wrap64 (x9 + 1))) else (none))))) else (some (([] : List (S32)), 3)))) else (none)) else (none)) else ((dist_tidy.f k x4).bind fun bt123 => (some (bt123.1, bt123.2)))) (fun k => by first | rfl | rw [dist_Make.l0]) ?_
  repeat' first
    | (with_reducible exact dist_small.F_is _)
    | (with_reducible exact dist_Make.L0_is _ _ _ _)
    | (with_reducible exact dist_tidy.F_is _)
    | (with_reducible exact LimIs.const _)
    | (with_reducible refine LimIs.ite ?_ ?_)
    | (with_reducible refine LimIs.bind ?_ (fun _ => ?_))
    | exact dist_small.F_is _
    | exact dist_Make.L0_is _ _ _ _
    | exact dist_tidy.F_is _
    | exact LimIs.const _
    | refine LimIs.ite ?_ ?_
    | refine LimIs.bind ?_ (fun _ => ?_)
set_option maxRecDepth 100000 in
theorem dist_Make.F_eq (l0 : List (S32)) : dist_Make.F l0 = dist_Make.L0 ([] : List (S32)) l0 (l0.length : Int) 0 := by
  refine LimIs.out (?_ : LimIs (fun k => dist_Make.l0 k ([] : List (S32)) l0 (l0.length : Int) 0) _)
  repeat' first
    | (with_reducible exact dist_Make.L0_is _ _ _ _)
    | (with_reducible exact LimIs.const _)
    | (with_reducible refine LimIs.ite ?_ ?_)
    | (with_reducible refine LimIs.bind ?_ (fun _ => ?_))
    | exact dist_Make.L0_is _ _ _ _
    | exact LimIs.const _
    | refine LimIs.ite ?_ ?_
    | refine LimIs.bind ?_ (fun _ => ?_)
set_option maxRecDepth 100000 in
theorem dist_Sure.F_eq (l0 : List Int) : dist_Sure.F l0 = (dist_Make.F (([(⟨l0, 1⟩ : S32)] : List (S32)))).bind fun bt139 => (some (bt139.1, bt139.2)) := by
  refine LimIs.out (?_ : LimIs (fun k => (dist_Make.f k (([(⟨l0, 1⟩ : S32)] : List (S32)))).bind fun bt139 => (some (bt139.1, bt139.2))) _)
  repeat' first
    | (with_reducible exact dist_Make.F_is _)
    | (with_reducible exact LimIs.const _)
    | (with_reducible refine LimIs.ite ?_ ?_)
    | (with_reducible refine LimIs.bind ?_ (fun _ => ?_))
    | exact dist_Make.F_is _
    | exact LimIs.const _
    | refine LimIs.ite ?_ ?_
    | refine LimIs.bind ?_ (fun _ => ?_)
set_option maxRecDepth 100000 in
theorem hushlaw2_alive.F_eq : hushlaw2_alive.F = (dist_Sure.F (([3] : List Int))).bind fun bt146 => (if bt146.2 = 0 then (if (bt146.1.length : Int) = 1 then (if 0 < (bt146.1.length : Int) then (some (((rd_T32 bt146.1 0).f1) == 1)) else (none)) else (some false)) else (some false)) := by
  refine LimIs.out (?_ : LimIs (fun k => (dist_Sure.f k (([3] : List Int))).bind fun bt146 => (if bt146.2 = 0 then (if (bt146.1.length : Int) = 1 then (if 0 < (bt146.1.length : Int) then (some (((rd_T32 bt146.1 0).f1) == 1)) else (none)) else (some false)) else (some false))) _)
  repeat' first
    | (with_reducible exact dist_Sure.F_is _)
    | (with_reducible exact LimIs.const _)
    | (with_reducible refine LimIs.ite ?_ ?_)
    | (with_reducible refine LimIs.bind ?_ (fun _ => ?_))
    | exact dist_Sure.F_is _
    | exact LimIs.const _
    | refine LimIs.ite ?_ ?_
    | refine LimIs.bind ?_ (fun _ => ?_)
end Go.Proofs.Ytkemhfhmlcljjaa.PE
end
section
namespace Go.Proofs.Ytkemhfhmlcljjaa.PE
open Go.RowKit Go.Proofs.YtkemhfhmlcljjaaW.PrintWords Go.Proofs.YtkemhfhmlcljjaaW.PrintLast Go.Proofs.YtkemhfhmlcljjaaW.PrintMore
open Go.Proofs.YtkemhfhmlcljjaaW.EvKit
set_option linter.unusedVariables false
noncomputable def hushref1_Divisor.J1 (x0 : Int) (x1 : Int) (x5 : Int) : Option (Int) := lim (fun k => hushref1_Divisor.j1 k x0 x1 x5)
theorem hushref1_Divisor.J1_is (x0 : Int) (x1 : Int) (x5 : Int) : LimIs (fun k => hushref1_Divisor.j1 k x0 x1 x5) (hushref1_Divisor.J1 x0 x1 x5) := ⟨fun k => (hushref1_Divisor.mono_l k).1 x0 x1 x5, rfl⟩
noncomputable def hushref1_Divisor.L1 (x0 : Int) (x1 : Int) (x5 : Int) : Option (Int) := lim (fun k => hushref1_Divisor.l1 k x0 x1 x5)
theorem hushref1_Divisor.L1_is (x0 : Int) (x1 : Int) (x5 : Int) : LimIs (fun k => hushref1_Divisor.l1 k x0 x1 x5) (hushref1_Divisor.L1 x0 x1 x5) := ⟨fun k => (hushref1_Divisor.mono_l k).2.1 x0 x1 x5, rfl⟩
noncomputable def hushref1_Divisor.L0 (x0 : Int) (x1 : Int) (x5 : Int) : Option (Int) := lim (fun k => hushref1_Divisor.l0 k x0 x1 x5)
theorem hushref1_Divisor.L0_is (x0 : Int) (x1 : Int) (x5 : Int) : LimIs (fun k => hushref1_Divisor.l0 k x0 x1 x5) (hushref1_Divisor.L0 x0 x1 x5) := ⟨fun k => (hushref1_Divisor.mono_l k).2.2.2 x0 x1 x5, rfl⟩
noncomputable def hushref1_Divisor.F (a0 : Int) (a1 : Int) : Option (Int) := lim (fun k => hushref1_Divisor.f k a0 a1)
theorem hushref1_Divisor.F_is (a0 : Int) (a1 : Int) : LimIs (fun k => hushref1_Divisor.f k a0 a1) (hushref1_Divisor.F a0 a1) := ⟨fun k => hushref1_Divisor.mono a0 a1 k, rfl⟩
set_option maxRecDepth 100000 in
theorem hushref1_Divisor.J1_eq (x0 : Int) (x1 : Int) (x5 : Int) : hushref1_Divisor.J1 x0 x1 x5 = hushref1_Divisor.L1 x0 x1 x5 := by
  refine LimIs.step' (hushref1_Divisor.J1_is x0 x1 x5).1 (b := fun k => hushref1_Divisor.l1 k x0 x1 x5) (fun k => by first | rfl | rw [hushref1_Divisor.j1]) ?_
  repeat' first
    | (with_reducible exact hushref1_Divisor.L1_is _ _ _)
    | (with_reducible exact LimIs.const _)
    | (with_reducible refine LimIs.ite ?_ ?_)
    | (with_reducible refine LimIs.bind ?_ (fun _ => ?_))
    | exact hushref1_Divisor.L1_is _ _ _
    | exact LimIs.const _
    | refine LimIs.ite ?_ ?_
    | refine LimIs.bind ?_ (fun _ => ?_)
set_option maxRecDepth 100000 in
theorem hushref1_Divisor.L0_eq (x0 : Int) (x1 : Int) (x5 : Int) : hushref1_Divisor.L0 x0 x1 x5 = if (Int.tmod x0 2) = 0 then (if (Int.tmod x1 2) = 0 then (hushref1_Divisor.L0 (wrap64 (Int.tdiv x0 2)) (wrap64 (Int.tdiv x1 2)) (wrap64 (x5 + 1))) else (hushref1_Divisor.J1 x0 x1 x5)) else (hushref1_Divisor.J1 x0 x1 x5) := by
  refine LimIs.step' (hushref1_Divisor.L0_is x0 x1 x5).1 (b := fun k => if (Int.tmod x0 2) = 0 then (if (Int.tmod x1 2) = 0 then (hushref1_Divisor.l0 k (wrap64 (Int.tdiv x0 2)) (wrap64 (Int.tdiv x1 2)) (wrap64 (x5 + 1))) else (hushref1_Divisor.j1 k x0 x1 x5)) else (hushref1_Divisor.j1 k x0 x1 x5)) (fun k => by first | rfl | rw [hushref1_Divisor.l0]) ?_
  repeat' first
    | (with_reducible exact hushref1_Divisor.L0_is _ _ _)
    | (with_reducible exact hushref1_Divisor.J1_is _ _ _)
    | (with_reducible exact LimIs.const _)
    | (with_reducible refine LimIs.ite ?_ ?_)
    | (with_reducible refine LimIs.bind ?_ (fun _ => ?_))
    | exact hushref1_Divisor.L0_is _ _ _
    | exact hushref1_Divisor.J1_is _ _ _
    | exact LimIs.const _
    | refine LimIs.ite ?_ ?_
    | refine LimIs.bind ?_ (fun _ => ?_)
set_option maxRecDepth 100000 in
theorem hushref1_Divisor.F_eq (a0 : Int) (a1 : Int) : hushref1_Divisor.F a0 a1 = if a0 = 0 then (some a1) else (hushref1_Divisor.L0 a0 a1 0) := by
  refine LimIs.out (?_ : LimIs (fun k => if a0 = 0 then (some a1) else (hushref1_Divisor.l0 k a0 a1 0)) _)
  repeat' first
    | (with_reducible exact hushref1_Divisor.L0_is _ _ _)
    | (with_reducible exact LimIs.const _)
    | (with_reducible refine LimIs.ite ?_ ?_)
    | (with_reducible refine LimIs.bind ?_ (fun _ => ?_))
    | exact hushref1_Divisor.L0_is _ _ _
    | exact LimIs.const _
    | refine LimIs.ite ?_ ?_
    | refine LimIs.bind ?_ (fun _ => ?_)
end Go.Proofs.Ytkemhfhmlcljjaa.PE
end
section
namespace Go.Proofs.Ytkemhfhmlcljjaa.PE
open Go.RowKit Go.Proofs.YtkemhfhmlcljjaaW.PrintWords Go.Proofs.YtkemhfhmlcljjaaW.PrintLast Go.Proofs.YtkemhfhmlcljjaaW.PrintMore
open Go.Proofs.YtkemhfhmlcljjaaW.EvKit
set_option linter.unusedVariables false
noncomputable def hushref1_Make.J0 (x0 : Int) (x1 : Int) (x12 : Bool) : Option (Int × Int × Int) := lim (fun k => hushref1_Make.j0 k x0 x1 x12)
theorem hushref1_Make.J0_is (x0 : Int) (x1 : Int) (x12 : Bool) : LimIs (fun k => hushref1_Make.j0 k x0 x1 x12) (hushref1_Make.J0 x0 x1 x12) := ⟨fun k => (hushref1_Make.mono_l k) x0 x1 x12, rfl⟩
noncomputable def hushref1_Make.F (a0 : Int) (a1 : Int) : Option (Int × Int × Int) := lim (fun k => hushref1_Make.f k a0 a1)
theorem hushref1_Make.F_is (a0 : Int) (a1 : Int) : LimIs (fun k => hushref1_Make.f k a0 a1) (hushref1_Make.F a0 a1) := ⟨fun k => hushref1_Make.mono a0 a1 k, rfl⟩
noncomputable def hushref1_Right.F (a0_0 : Int) (a0_1 : Int) : Option (Bool) := lim (fun k => hushref1_Right.f k a0_0 a0_1)
theorem hushref1_Right.F_is (a0_0 : Int) (a0_1 : Int) : LimIs (fun k => hushref1_Right.f k a0_0 a0_1) (hushref1_Right.F a0_0 a0_1) := ⟨fun k => hushref1_Right.mono a0_0 a0_1 k, rfl⟩
noncomputable def hushref1_Times.F (a0_0 : Int) (a0_1 : Int) (a1_0 : Int) (a1_1 : Int) : Option (Int × Int × Int) := lim (fun k => hushref1_Times.f k a0_0 a0_1 a1_0 a1_1)
theorem hushref1_Times.F_is (a0_0 : Int) (a0_1 : Int) (a1_0 : Int) (a1_1 : Int) : LimIs (fun k => hushref1_Times.f k a0_0 a0_1 a1_0 a1_1) (hushref1_Times.F a0_0 a0_1 a1_0 a1_1) := ⟨fun k => hushref1_Times.mono a0_0 a0_1 a1_0 a1_1 k, rfl⟩
set_option maxRecDepth 100000 in
theorem hushref1_Make.J0_eq (x0 : Int) (x1 : Int) (x12 : Bool) : hushref1_Make.J0 x0 x1 x12 = if x12 = true then (some (0, 0, 3)) else ((hushref1_Divisor.F x0 x1).bind fun t168 => (if t168 = 0 then (none) else (if (wrap64 (Int.tdiv x0 t168)) > 1073741824 then (some (0, 0, 4)) else (if (wrap64 (Int.tdiv x1 t168)) > 1073741824 then (some (0, 0, 4)) else (some (wrap64 (Int.tdiv x0 t168), wrap64 (Int.tdiv x1 t168), 0)))))) := by
  refine LimIs.step' (hushref1_Make.J0_is x0 x1 x12).1 (b := fun k => if x12 = true then (some (0, 0, 3)) else ((hushref1_Divisor.f k x0 x1).bind fun t168 => (if t168 = 0 then (none) else (if (wrap64 (Int.tdiv x0 t168)) > 1073741824 then (some (0, 0, 4)) else (if (wrap64 (Int.tdiv x1 t168)) > 1073741824 then (some (0, 0, 4)) else (some (wrap64 (Int.tdiv x0 t168), wrap64 (Int.tdiv x1 t168), 0))))))) (fun k => by first | rfl | rw [hushref1_Make.j0]) ?_
  repeat' first
    | (with_reducible exact hushref1_Divisor.F_is _ _)
    | (with_reducible exact LimIs.const _)
    | (with_reducible refine LimIs.ite ?_ ?_)
    | (with_reducible refine LimIs.bind ?_ (fun _ => ?_))
    | exact hushref1_Divisor.F_is _ _
    | exact LimIs.const _
    | refine LimIs.ite ?_ ?_
    | refine LimIs.bind ?_ (fun _ => ?_)
set_option maxRecDepth 100000 in
theorem hushref1_Make.F_eq (a0 : Int) (a1 : Int) : hushref1_Make.F a0 a1 = if a0 < 0 then (hushref1_Make.J0 a0 a1 true) else (hushref1_Make.J0 a0 a1 (decide (a1 < 1))) := by
  refine LimIs.out (?_ : LimIs (fun k => if a0 < 0 then (hushref1_Make.j0 k a0 a1 true) else (hushref1_Make.j0 k a0 a1 (decide (a1 < 1)))) _)
  repeat' first
    | (with_reducible exact hushref1_Make.J0_is _ _ _)
    | (with_reducible exact LimIs.const _)
    | (with_reducible refine LimIs.ite ?_ ?_)
    | (with_reducible refine LimIs.bind ?_ (fun _ => ?_))
    | exact hushref1_Make.J0_is _ _ _
    | exact LimIs.const _
    | refine LimIs.ite ?_ ?_
    | refine LimIs.bind ?_ (fun _ => ?_)
set_option maxRecDepth 100000 in
theorem hushref1_Right.F_eq (a0_0 : Int) (a0_1 : Int) : hushref1_Right.F a0_0 a0_1 = if a0_0 ≥ 0 then (if a0_1 ≥ 1 then (if a0_0 ≤ 1073741824 then (if a0_1 ≤ 1073741824 then ((hushref1_Divisor.F a0_0 a0_1).bind fun t170 => (some (t170 == 1))) else (some false)) else (some false)) else (some false)) else (some false) := by
  refine LimIs.out (?_ : LimIs (fun k => if a0_0 ≥ 0 then (if a0_1 ≥ 1 then (if a0_0 ≤ 1073741824 then (if a0_1 ≤ 1073741824 then ((hushref1_Divisor.f k a0_0 a0_1).bind fun t170 => (some (t170 == 1))) else (some false)) else (some false)) else (some false)) else (some false)) _)
  repeat' first
    | (with_reducible exact hushref1_Divisor.F_is _ _)
    | (with_reducible exact LimIs.const _)
    | (with_reducible refine LimIs.ite ?_ ?_)
    | (with_reducible refine LimIs.bind ?_ (fun _ => ?_))
    | exact hushref1_Divisor.F_is _ _
    | exact LimIs.const _
    | refine LimIs.ite ?_ ?_
    | refine LimIs.bind ?_ (fun _ => ?_)
set_option maxRecDepth 100000 in
theorem hushref1_Times.F_eq (a0_0 : Int) (a0_1 : Int) (a1_0 : Int) (a1_1 : Int) : hushref1_Times.F a0_0 a0_1 a1_0 a1_1 = (hushref1_Right.F a0_0 a0_1).bind fun t174 => (if t174 = true then ((hushref1_Right.F a1_0 a1_1).bind fun t175 => (if t175 = true then ((hushref1_Make.F (wrap64 (a0_0 * a1_0)) (wrap64 (a0_1 * a1_1))).bind fun bt176 => (some (bt176.1, bt176.2.1, bt176.2.2))) else (some (0, 0, 2)))) else (some (0, 0, 2))) := by
  refine LimIs.out (?_ : LimIs (fun k => (hushref1_Right.f k a0_0 a0_1).bind fun t174 => (if t174 = true then ((hushref1_Right.f k a1_0 a1_1).bind fun t175 => (if t175 = true then ((hushref1_Make.f k (wrap64 (a0_0 * a1_0)) (wrap64 (a0_1 * a1_1))).bind fun bt176 => (some (bt176.1, bt176.2.1, bt176.2.2))) else (some (0, 0, 2)))) else (some (0, 0, 2)))) _)
  repeat' first
    | (with_reducible exact hushref1_Right.F_is _ _)
    | (with_reducible exact hushref1_Make.F_is _ _)
    | (with_reducible exact LimIs.const _)
    | (with_reducible refine LimIs.ite ?_ ?_)
    | (with_reducible refine LimIs.bind ?_ (fun _ => ?_))
    | exact hushref1_Right.F_is _ _
    | exact hushref1_Make.F_is _ _
    | exact LimIs.const _
    | refine LimIs.ite ?_ ?_
    | refine LimIs.bind ?_ (fun _ => ?_)
end Go.Proofs.Ytkemhfhmlcljjaa.PE
end
section
namespace Go.Proofs.Ytkemhfhmlcljjaa.PE
open Go.RowKit Go.Proofs.YtkemhfhmlcljjaaW.PrintWords Go.Proofs.YtkemhfhmlcljjaaW.PrintLast Go.Proofs.YtkemhfhmlcljjaaW.PrintMore
open Go.Proofs.YtkemhfhmlcljjaaW.EvKit
set_option linter.unusedVariables false
noncomputable def hushref1_Plus.F (a0_0 : Int) (a0_1 : Int) (a1_0 : Int) (a1_1 : Int) : Option (Int × Int × Int) := lim (fun k => hushref1_Plus.f k a0_0 a0_1 a1_0 a1_1)
theorem hushref1_Plus.F_is (a0_0 : Int) (a0_1 : Int) (a1_0 : Int) (a1_1 : Int) : LimIs (fun k => hushref1_Plus.f k a0_0 a0_1 a1_0 a1_1) (hushref1_Plus.F a0_0 a0_1 a1_0 a1_1) := ⟨fun k => hushref1_Plus.mono a0_0 a0_1 a1_0 a1_1 k, rfl⟩
set_option maxRecDepth 100000 in
theorem hushref1_Plus.F_eq (a0_0 : Int) (a0_1 : Int) (a1_0 : Int) (a1_1 : Int) : hushref1_Plus.F a0_0 a0_1 a1_0 a1_1 = (hushref1_Right.F a0_0 a0_1).bind fun t187 => (if t187 = true then ((hushref1_Right.F a1_0 a1_1).bind fun t188 => (if t188 = true then ((hushref1_Make.F (wrap64 ((wrap64 (a0_0 * a1_1)) + (wrap64 (a1_0 * a0_1)))) (wrap64 (a0_1 * a1_1))).bind fun bt189 => (some (bt189.1, bt189.2.1, bt189.2.2))) else (some (0, 0, 2)))) else (some (0, 0, 2))) := by
  refine LimIs.out (?_ : LimIs (fun k => (hushref1_Right.f k a0_0 a0_1).bind fun t187 => (if t187 = true then ((hushref1_Right.f k a1_0 a1_1).bind fun t188 => (if t188 = true then ((hushref1_Make.f k (wrap64 ((wrap64 (a0_0 * a1_1)) + (wrap64 (a1_0 * a0_1)))) (wrap64 (a0_1 * a1_1))).bind fun bt189 => (some (bt189.1, bt189.2.1, bt189.2.2))) else (some (0, 0, 2)))) else (some (0, 0, 2)))) _)
  repeat' first
    | (with_reducible exact hushref1_Right.F_is _ _)
    | (with_reducible exact hushref1_Make.F_is _ _)
    | (with_reducible exact LimIs.const _)
    | (with_reducible refine LimIs.ite ?_ ?_)
    | (with_reducible refine LimIs.bind ?_ (fun _ => ?_))
    | exact hushref1_Right.F_is _ _
    | exact hushref1_Make.F_is _ _
    | exact LimIs.const _
    | refine LimIs.ite ?_ ?_
    | refine LimIs.bind ?_ (fun _ => ?_)
end Go.Proofs.Ytkemhfhmlcljjaa.PE
end
section
namespace Go.Proofs.Ytkemhfhmlcljjaa.PE
open Go.RowKit Go.Proofs.YtkemhfhmlcljjaaW.PrintWords Go.Proofs.YtkemhfhmlcljjaaW.PrintLast Go.Proofs.YtkemhfhmlcljjaaW.PrintMore
open Go.Proofs.YtkemhfhmlcljjaaW.EvKit
set_option linter.unusedVariables false
noncomputable def api_Part.L0 (x1 : List (S32)) (x15 : List (S32)) (x16 : Int) (x17 : Int) : Option (Bool) := lim (fun k => api_Part.l0 k x1 x15 x16 x17)
theorem api_Part.L0_is (x1 : List (S32)) (x15 : List (S32)) (x16 : Int) (x17 : Int) : LimIs (fun k => api_Part.l0 k x1 x15 x16 x17) (api_Part.L0 x1 x15 x16 x17) := ⟨fun k => (api_Part.mono_l k) x1 x15 x16 x17, rfl⟩
noncomputable def dist_wrongs.L0 (x6 : List (List (S32))) (x7 : Int) (x8 : Int) : Option (Int) := lim (fun k => dist_wrongs.l0 k x6 x7 x8)
theorem dist_wrongs.L0_is (x6 : List (List (S32))) (x7 : Int) (x8 : Int) : LimIs (fun k => dist_wrongs.l0 k x6 x7 x8) (dist_wrongs.L0 x6 x7 x8) := ⟨fun k => (dist_wrongs.mono_l k) x6 x7 x8, rfl⟩
noncomputable def dist_same_1.F (l0_0 : List Int) (a0_1 : Int) (l1_0 : List Int) (a1_1 : Int) : Option (Bool) := lim (fun k => dist_same_1.f k l0_0 a0_1 l1_0 a1_1)
theorem dist_same_1.F_is (l0_0 : List Int) (a0_1 : Int) (l1_0 : List Int) (a1_1 : Int) : LimIs (fun k => dist_same_1.f k l0_0 a0_1 l1_0 a1_1) (dist_same_1.F l0_0 a0_1 l1_0 a1_1) := ⟨fun k => dist_same_1.mono l0_0 a0_1 l1_0 a1_1 k, rfl⟩
noncomputable def api_Part.F (l0 : List (S32)) (l1 : List (S32)) (a2 : Int) : Option (Bool) := lim (fun k => api_Part.f k l0 l1 a2)
theorem api_Part.F_is (l0 : List (S32)) (l1 : List (S32)) (a2 : Int) : LimIs (fun k => api_Part.f k l0 l1 a2) (api_Part.F l0 l1 a2) := ⟨fun k => api_Part.mono l0 l1 a2 k, rfl⟩
noncomputable def dist_same.F (l0 : List (S32)) (l1 : List (S32)) : Option (Bool) := lim (fun k => dist_same.f k l0 l1)
theorem dist_same.F_is (l0 : List (S32)) (l1 : List (S32)) : LimIs (fun k => dist_same.f k l0 l1) (dist_same.F l0 l1) := ⟨fun k => dist_same.mono l0 l1 k, rfl⟩
noncomputable def dist_Wrong.F (l0 : List (S32)) : Option (Int) := lim (fun k => dist_Wrong.f k l0)
theorem dist_Wrong.F_is (l0 : List (S32)) : LimIs (fun k => dist_Wrong.f k l0) (dist_Wrong.F l0) := ⟨fun k => dist_Wrong.mono l0 k, rfl⟩
noncomputable def dist_wrongs.F (l0 : List (List (S32))) : Option (Int) := lim (fun k => dist_wrongs.f k l0)
theorem dist_wrongs.F_is (l0 : List (List (S32))) : LimIs (fun k => dist_wrongs.f k l0) (dist_wrongs.F l0) := ⟨fun k => dist_wrongs.mono l0 k, rfl⟩
set_option maxRecDepth 100000 in
theorem api_Part.L0_eq (x1 : List (S32)) (x15 : List (S32)) (x16 : Int) (x17 : Int) : api_Part.L0 x1 x15 x16 x17 = if x17 < x16 then (if 0 ≤ x17 then (if x17 < (x15.length : Int) then (if x17 < (x1.length : Int) then ((dist_same_1.F ((rd_T32 x15 x17).f0) ((rd_T32 x15 x17).f1) ((rd_T32 x1 x17).f0) ((rd_T32 x1 x17).f1)).bind fun t158 => (if t158 = true then (api_Part.L0 x1 x15 x16 (wrap64 (x17 + 1))) else (some false))) else (none)) else (none)) else (none)) else (some true) := by
  refine LimIs.step' (api_Part.L0_is x1 x15 x16 x17).1 (b := fun k => if x17 < x16 then (if 0 ≤ x17 then (if x17 < (x15.length : Int) then (if x17 < (x1.length : Int) then ((dist_same_1.f k ((rd_T32 x15 x17).f0) ((rd_T32 x15 x17).f1) ((rd_T32 x1 x17).f0) ((rd_T32 x1 x17).f1)).bind fun t158 => (if t158 = true then (api_Part.l0 k x1 x15 x16 (wrap64 (x17 + 1))) else (some false))) else (none)) else (none)) else (none)) else (some true)) (fun k => by first | rfl | rw [api_Part.l0]) ?_
  repeat' first
    | (with_reducible exact dist_same_1.F_is _ _ _ _)
    | (with_reducible exact api_Part.L0_is _ _ _ _)
    | (with_reducible exact LimIs.const _)
    | (with_reducible refine LimIs.ite ?_ ?_)
    | (with_reducible refine LimIs.bind ?_ (fun _ => ?_))
    | exact dist_same_1.F_is _ _ _ _
    | exact api_Part.L0_is _ _ _ _
    | exact LimIs.const _
    | refine LimIs.ite ?_ ?_
    | refine LimIs.bind ?_ (fun _ => ?_)
set_option maxRecDepth 100000 in
theorem dist_wrongs.L0_eq (x6 : List (List (S32))) (x7 : Int) (x8 : Int) : dist_wrongs.L0 x6 x7 x8 = if x8 < x7 then (if 0 ≤ x8 then (if x8 < (x6.length : Int) then ((dist_Wrong.F (rd_L3 x6 x8)).bind fun t166 => (if t166 = 0 then (dist_wrongs.L0 x6 x7 (wrap64 (x8 + 1))) else (some t166))) else (none)) else (none)) else (some 0) := by
  refine LimIs.step' (dist_wrongs.L0_is x6 x7 x8).1 (b := fun k => if x8 < x7 then (if 0 ≤ x8 then (if x8 < (x6.length : Int) then ((dist_Wrong.f k (rd_L3 x6 x8)).bind fun t166 => (if t166 = 0 then (dist_wrongs.l0 k x6 x7 (wrap64 (x8 + 1))) else (some t166))) else (none)) else (none)) else (some 0)) (fun k => by first | rfl | rw [dist_wrongs.l0]) ?_
  repeat' first
    | (with_reducible exact dist_Wrong.F_is _)
    | (with_reducible exact dist_wrongs.L0_is _ _ _)
    | (with_reducible exact LimIs.const _)
    | (with_reducible refine LimIs.ite ?_ ?_)
    | (with_reducible refine LimIs.bind ?_ (fun _ => ?_))
    | exact dist_Wrong.F_is _
    | exact dist_wrongs.L0_is _ _ _
    | exact LimIs.const _
    | refine LimIs.ite ?_ ?_
    | refine LimIs.bind ?_ (fun _ => ?_)
set_option maxRecDepth 100000 in
theorem dist_same_1.F_eq (l0_0 : List Int) (a0_1 : Int) (l1_0 : List Int) (a1_1 : Int) : dist_same_1.F l0_0 a0_1 l1_0 a1_1 = if a0_1 = a1_1 then ((slices_Equal_int_int.F l0_0 l1_0).bind fun t153 => (some t153)) else (some false) := by
  refine LimIs.out (?_ : LimIs (fun k => if a0_1 = a1_1 then ((slices_Equal_int_int.f k l0_0 l1_0).bind fun t153 => (some t153)) else (some false)) _)
  repeat' first
    | (with_reducible exact slices_Equal_int_int.F_is _ _)
    | (with_reducible exact LimIs.const _)
    | (with_reducible refine LimIs.ite ?_ ?_)
    | (with_reducible refine LimIs.bind ?_ (fun _ => ?_))
    | exact slices_Equal_int_int.F_is _ _
    | exact LimIs.const _
    | refine LimIs.ite ?_ ?_
    | refine LimIs.bind ?_ (fun _ => ?_)
set_option maxRecDepth 100000 in
theorem api_Part.F_eq (l0 : List (S32)) (l1 : List (S32)) (a2 : Int) : api_Part.F l0 l1 a2 = if (l0.length : Int) = (l1.length : Int) then (api_Part.L0 l1 l0 (l0.length : Int) 0) else (some false) := by
  refine LimIs.out (?_ : LimIs (fun k => if (l0.length : Int) = (l1.length : Int) then (api_Part.l0 k l1 l0 (l0.length : Int) 0) else (some false)) _)
  repeat' first
    | (with_reducible exact api_Part.L0_is _ _ _ _)
    | (with_reducible exact LimIs.const _)
    | (with_reducible refine LimIs.ite ?_ ?_)
    | (with_reducible refine LimIs.bind ?_ (fun _ => ?_))
    | exact api_Part.L0_is _ _ _ _
    | exact LimIs.const _
    | refine LimIs.ite ?_ ?_
    | refine LimIs.bind ?_ (fun _ => ?_)
set_option maxRecDepth 100000 in
theorem dist_same.F_eq (l0 : List (S32)) (l1 : List (S32)) : dist_same.F l0 l1 = (api_Part.F l0 l1 990000082).bind fun t159 => (some t159) := by
  refine LimIs.out (?_ : LimIs (fun k => (api_Part.f k l0 l1 990000082).bind fun t159 => (some t159)) _)
  repeat' first
    | (with_reducible exact api_Part.F_is _ _ _)
    | (with_reducible exact LimIs.const _)
    | (with_reducible refine LimIs.ite ?_ ?_)
    | (with_reducible refine LimIs.bind ?_ (fun _ => ?_))
    | exact api_Part.F_is _ _ _
    | exact LimIs.const _
    | refine LimIs.ite ?_ ?_
    | refine LimIs.bind ?_ (fun _ => ?_)
set_option maxRecDepth 100000 in
theorem dist_Wrong.F_eq (l0 : List (S32)) : dist_Wrong.F l0 = (dist_Make.F l0).bind fun bt160 => (if bt160.2 = 0 then ((dist_same.F l0 bt160.1).bind fun t164 => (if t164 = true then (some bt160.2) else (some 2))) else (some bt160.2)) := by
  refine LimIs.out (?_ : LimIs (fun k => (dist_Make.f k l0).bind fun bt160 => (if bt160.2 = 0 then ((dist_same.f k l0 bt160.1).bind fun t164 => (if t164 = true then (some bt160.2) else (some 2))) else (some bt160.2))) _)
  repeat' first
    | (with_reducible exact dist_Make.F_is _)
    | (with_reducible exact dist_same.F_is _ _)
    | (with_reducible exact LimIs.const _)
    | (with_reducible refine LimIs.ite ?_ ?_)
    | (with_reducible refine LimIs.bind ?_ (fun _ => ?_))
    | exact dist_Make.F_is _
    | exact dist_same.F_is _ _
    | exact LimIs.const _
    | refine LimIs.ite ?_ ?_
    | refine LimIs.bind ?_ (fun _ => ?_)
set_option maxRecDepth 100000 in
theorem dist_wrongs.F_eq (l0 : List (List (S32))) : dist_wrongs.F l0 = dist_wrongs.L0 l0 (l0.length : Int) 0 := by
  refine LimIs.out (?_ : LimIs (fun k => dist_wrongs.l0 k l0 (l0.length : Int) 0) _)
  repeat' first
    | (with_reducible exact dist_wrongs.L0_is _ _ _)
    | (with_reducible exact LimIs.const _)
    | (with_reducible refine LimIs.ite ?_ ?_)
    | (with_reducible refine LimIs.bind ?_ (fun _ => ?_))
    | exact dist_wrongs.L0_is _ _ _
    | exact LimIs.const _
    | refine LimIs.ite ?_ ?_
    | refine LimIs.bind ?_ (fun _ => ?_)
end Go.Proofs.Ytkemhfhmlcljjaa.PE
end
section
namespace Go.Proofs.Ytkemhfhmlcljjaa.PE
open Go.RowKit Go.Proofs.YtkemhfhmlcljjaaW.PrintWords Go.Proofs.YtkemhfhmlcljjaaW.PrintLast Go.Proofs.YtkemhfhmlcljjaaW.PrintMore
open Go.Proofs.YtkemhfhmlcljjaaW.EvKit
set_option linter.unusedVariables false
noncomputable def hushref2_Compare.L0 (x0 : List Int) (x1 : List Int) (x7 : Int) (x8 : Int) : Option (Int) := lim (fun k => hushref2_Compare.l0 k x0 x1 x7 x8)
theorem hushref2_Compare.L0_is (x0 : List Int) (x1 : List Int) (x7 : Int) (x8 : Int) : LimIs (fun k => hushref2_Compare.l0 k x0 x1 x7 x8) (hushref2_Compare.L0 x0 x1 x7 x8) := ⟨fun k => (hushref2_Compare.mono_l k) x0 x1 x7 x8, rfl⟩
noncomputable def hushref2_Same.L0 (x0 : List (S32)) (x1 : List (S32)) (x12 : Int) (x13 : Int) : Option (Bool) := lim (fun k => hushref2_Same.l0 k x0 x1 x12 x13)
theorem hushref2_Same.L0_is (x0 : List (S32)) (x1 : List (S32)) (x12 : Int) (x13 : Int) : LimIs (fun k => hushref2_Same.l0 k x0 x1 x12 x13) (hushref2_Same.L0 x0 x1 x12 x13) := ⟨fun k => (hushref2_Same.mono_l k) x0 x1 x12 x13, rfl⟩
noncomputable def hushref2_Compare.F (l0 : List Int) (l1 : List Int) : Option (Int) := lim (fun k => hushref2_Compare.f k l0 l1)
theorem hushref2_Compare.F_is (l0 : List Int) (l1 : List Int) : LimIs (fun k => hushref2_Compare.f k l0 l1) (hushref2_Compare.F l0 l1) := ⟨fun k => hushref2_Compare.mono l0 l1 k, rfl⟩
noncomputable def hushref2_Same.F (l0 : List (S32)) (l1 : List (S32)) : Option (Bool) := lim (fun k => hushref2_Same.f k l0 l1)
theorem hushref2_Same.F_is (l0 : List (S32)) (l1 : List (S32)) : LimIs (fun k => hushref2_Same.f k l0 l1) (hushref2_Same.F l0 l1) := ⟨fun k => hushref2_Same.mono l0 l1 k, rfl⟩
set_option maxRecDepth 100000 in
theorem hushref2_Compare.L0_eq (x0 : List Int) (x1 : List Int) (x7 : Int) (x8 : Int) : hushref2_Compare.L0 x0 x1 x7 x8 = if x8 < x7 then (if x8 ≥ (x1.length : Int) then (some 1) else (if 0 ≤ x8 then (if x8 < (x0.length : Int) then (if x8 < (x1.length : Int) then (if (rd x0 x8) = (rd x1 x8) then (hushref2_Compare.L0 x0 x1 x7 (wrap64 (x8 + 1))) else (if (rd x0 x8) < (rd x1 x8) then (some (-1)) else (some 1))) else (none)) else (none)) else (none))) else (if (x0.length : Int) < (x1.length : Int) then (some (-1)) else (some 0)) := by
  refine LimIs.step' (hushref2_Compare.L0_is x0 x1 x7 x8).1 (b := fun k => if x8 < x7 then (if x8 ≥ (x1.length : Int) then (some 1) else (if 0 ≤ x8 then (if x8 < (x0.length : Int) then (if x8 < (x1.length : Int) then (if (rd x0 x8) = (rd x1 x8) then (hushref2_Compare.l0 k x0 x1 x7 (wrap64 (x8 + 1))) else (if (rd x0 x8) < (rd x1 x8) then (some (-1)) else (some 1))) else (none)) else (none)) else (none))) else (if (x0.length : Int) < (x1.length : Int) then (some (-1)) else (some 0))) (fun k => by first | rfl | rw [hushref2_Compare.l0]) ?_
  repeat' first
    | (with_reducible exact hushref2_Compare.L0_is _ _ _ _)
    | (with_reducible exact LimIs.const _)
    | (with_reducible refine LimIs.ite ?_ ?_)
    | (with_reducible refine LimIs.bind ?_ (fun _ => ?_))
    | exact hushref2_Compare.L0_is _ _ _ _
    | exact LimIs.const _
    | refine LimIs.ite ?_ ?_
    | refine LimIs.bind ?_ (fun _ => ?_)
set_option maxRecDepth 100000 in
theorem hushref2_Same.L0_eq (x0 : List (S32)) (x1 : List (S32)) (x12 : Int) (x13 : Int) : hushref2_Same.L0 x0 x1 x12 x13 = if x13 < x12 then (if 0 ≤ x13 then (if x13 < (x0.length : Int) then (if x13 < (x1.length : Int) then (if ((rd_T32 x0 x13).f1) = ((rd_T32 x1 x13).f1) then ((hushref2_Compare.F ((rd_T32 x0 x13).f0) ((rd_T32 x1 x13).f0)).bind fun t109 => (if t109 = 0 then (hushref2_Same.L0 x0 x1 x12 (wrap64 (x13 + 1))) else (some false))) else (some false)) else (none)) else (none)) else (none)) else (some true) := by
  refine LimIs.step' (hushref2_Same.L0_is x0 x1 x12 x13).1 (b := fun k => if x13 < x12 then (if 0 ≤ x13 then (if x13 < (x0.length : Int) then (if x13 < (x1.length : Int) then (if ((rd_T32 x0 x13).f1) = ((rd_T32 x1 x13).f1) then ((hushref2_Compare.f k ((rd_T32 x0 x13).f0) ((rd_T32 x1 x13).f0)).bind fun t109 => (if t109 = 0 then (hushref2_Same.l0 k x0 x1 x12 (wrap64 (x13 + 1))) else (some false))) else (some false)) else (none)) else (none)) else (none)) else (some true)) (fun k => by first | rfl | rw [hushref2_Same.l0]) ?_
  repeat' first
    | (with_reducible exact hushref2_Compare.F_is _ _)
    | (with_reducible exact hushref2_Same.L0_is _ _ _ _)
    | (with_reducible exact LimIs.const _)
    | (with_reducible refine LimIs.ite ?_ ?_)
    | (with_reducible refine LimIs.bind ?_ (fun _ => ?_))
    | exact hushref2_Compare.F_is _ _
    | exact hushref2_Same.L0_is _ _ _ _
    | exact LimIs.const _
    | refine LimIs.ite ?_ ?_
    | refine LimIs.bind ?_ (fun _ => ?_)
set_option maxRecDepth 100000 in
theorem hushref2_Compare.F_eq (l0 : List Int) (l1 : List Int) : hushref2_Compare.F l0 l1 = hushref2_Compare.L0 l0 l1 (l0.length : Int) 0 := by
  refine LimIs.out (?_ : LimIs (fun k => hushref2_Compare.l0 k l0 l1 (l0.length : Int) 0) _)
  repeat' first
    | (with_reducible exact hushref2_Compare.L0_is _ _ _ _)
    | (with_reducible exact LimIs.const _)
    | (with_reducible refine LimIs.ite ?_ ?_)
    | (with_reducible refine LimIs.bind ?_ (fun _ => ?_))
    | exact hushref2_Compare.L0_is _ _ _ _
    | exact LimIs.const _
    | refine LimIs.ite ?_ ?_
    | refine LimIs.bind ?_ (fun _ => ?_)
set_option maxRecDepth 100000 in
theorem hushref2_Same.F_eq (l0 : List (S32)) (l1 : List (S32)) : hushref2_Same.F l0 l1 = if (l0.length : Int) = (l1.length : Int) then (hushref2_Same.L0 l0 l1 (l0.length : Int) 0) else (some false) := by
  refine LimIs.out (?_ : LimIs (fun k => if (l0.length : Int) = (l1.length : Int) then (hushref2_Same.l0 k l0 l1 (l0.length : Int) 0) else (some false)) _)
  repeat' first
    | (with_reducible exact hushref2_Same.L0_is _ _ _ _)
    | (with_reducible exact LimIs.const _)
    | (with_reducible refine LimIs.ite ?_ ?_)
    | (with_reducible refine LimIs.bind ?_ (fun _ => ?_))
    | exact hushref2_Same.L0_is _ _ _ _
    | exact LimIs.const _
    | refine LimIs.ite ?_ ?_
    | refine LimIs.bind ?_ (fun _ => ?_)
end Go.Proofs.Ytkemhfhmlcljjaa.PE
end
section
namespace Go.Proofs.Ytkemhfhmlcljjaa.DistPure
set_option linter.unusedVariables false
set_option linter.unusedSimpArgs false
open Go.RowKit Go.Proofs.Ytkemhfhmlcljjaa.PE Go.Proofs.YtkemhfhmlcljjaaW.PrintWords Go.Proofs.YtkemhfhmlcljjaaW.PrintLast Go.Proofs.YtkemhfhmlcljjaaW.PrintMore Go.Proofs.YtkemhfhmlcljjaaW.EvKit
theorem rdAt {xs : List Int} {i : Nat} (h : i < xs.length) : rd xs (i : Int) = xs[i] := by
  rw [rd_nat, List.getD_eq_getElem?_getD, List.getElem?_eq_getElem h]; rfl
theorem rd32At {xs : List S32} {i : Nat} (h : i < xs.length) : rd_T32 xs (i : Int) = xs[i] := by
  unfold rd_T32
  rw [Int.toNat_natCast, List.getD_eq_getElem?_getD, List.getElem?_eq_getElem h]; rfl
theorem w1 {i : Nat} (h : i < 4611686018427387904) : wrap64 ((i : Int) + 1) = ((i + 1 : Nat) : Int) := by rw [wrap64_of (by omega) (by omega)]; rfl
theorem eqF (x y : List Int) (hx : x.length ≤ 1048576) : slices_Equal_int_int.F x y = some (decide (x = y)) :=
  ((slices_Equal_int_int.F_is x y).iff _).2 (eq_is x y (by omega))
theorem rcmp_loop (x y : List Int) (hx : x.length ≤ 1048576) (hy : y.length ≤ 1048576) : ∀ (n i : Nat), i + n = x.length → i ≤ y.length →
    hushref2_Compare.L0 x y (x.length : Int) (i : Int) = some (cmpL (x.drop i) (y.drop i)) := by
  intro n
  induction n with
  | zero =>
    intro i hi h
    rw [hushref2_Compare.L0_eq, if_neg (by omega), List.drop_of_length_le (show x.length ≤ i by omega)]
    rcases Nat.lt_or_ge i y.length with h2 | h2
    · rw [if_pos (by omega), List.drop_eq_getElem_cons h2]
      rfl
    · rw [if_neg (by omega), List.drop_of_length_le h2]
      rfl
  | succ n ih =>
    intro i hi h
    have hxi : i < x.length := by omega
    rw [hushref2_Compare.L0_eq, if_pos (by omega), List.drop_eq_getElem_cons hxi]
    rcases Nat.lt_or_ge i y.length with h2 | h2
    · rw [if_neg (by omega), if_pos (by omega), if_pos (by omega), if_pos (by omega), List.drop_eq_getElem_cons h2, rdAt hxi, rdAt h2, cmpL]
      by_cases c : x[i] = y[i]
      · rw [if_pos c, if_neg (by omega), if_neg (by omega), w1 (by omega)]
        exact ih (i + 1) (by omega) (by omega)
      · rw [if_neg c]
        by_cases c1 : x[i] < y[i]
        · rw [if_pos c1, if_pos c1]
        · rw [if_neg c1, if_neg c1, if_pos (by omega)]
    · rw [if_pos (by omega), List.drop_of_length_le h2]
      rfl
theorem rcmpF (x y : List Int) (hx : x.length ≤ 1048576) (hy : y.length ≤ 1048576) : hushref2_Compare.F x y = some (cmpL x y) := by
  rw [hushref2_Compare.F_eq]
  exact rcmp_loop x y hx hy x.length 0 (by omega) (by omega)
theorem cmpL0 {a b : List Int} : cmpL a b = 0 ↔ a = b := ⟨cmpL_eq a b, fun h => by rw [h, cmpL_self]⟩
def okN (n : Int) : Bool := decide (-1073741824 ≤ n) && decide (n ≤ 1073741824)
def smallB (o : List Int) : Bool := decide (o.length ≤ 16) && o.all okN
theorem small1 (n : Int) : dist_small_1.f n = some (!okN n) := by
  unfold dist_small_1.f okN
  by_cases h : n < -1073741824
  · rw [if_pos h]; congr 1; symm; simp; omega
  · rw [if_neg h]; congr 1; rw [Bool.eq_iff_iff]; simp; omega
theorem index_loop (x : List Int) (hx : x.length ≤ 1048576) : ∀ (n i : Nat), i + n = x.length →
    ∃ r, slices_IndexFunc_int_int.L0 x (x.length : Int) (i : Int) = some r ∧ decide (r ≥ 0) = !((x.drop i).all okN) := by
  intro n
  induction n with
  | zero =>
    intro i hi
    refine ⟨-1, ?_, ?_⟩
    · rw [slices_IndexFunc_int_int.L0_eq, if_neg (by omega)]
    · rw [List.drop_of_length_le (show x.length ≤ i by omega)]; rfl
  | succ n ih =>
    intro i hi
    have hxi : i < x.length := by omega
    rw [slices_IndexFunc_int_int.L0_eq, if_pos (by omega), if_pos (by omega), if_pos (by omega), rdAt hxi, small1, Option.bind_some, List.drop_eq_getElem_cons hxi, List.all_cons]
    cases h : okN x[i] with
    | false => exact ⟨i, if_pos rfl, by simp⟩
    | true =>
      obtain ⟨r, h1, h2⟩ := ih (i + 1) (by omega)
      refine ⟨r, ?_, by rw [h2]; rfl⟩
      rw [if_neg (by decide), w1 (by omega)]
      exact h1
theorem smallF (o : List Int) (h : o.length ≤ 1048576) : dist_small.F o = some (smallB o) := by
  rw [dist_small.F_eq]
  unfold smallB
  by_cases c : o.length ≤ 16
  · obtain ⟨r, h1, h2⟩ := index_loop o h o.length 0 (by omega)
    rw [if_pos (by omega), slices_ContainsFunc_int_int.F_eq, slices_IndexFunc_int_int.F_eq]
    rw [show (0 : Int) = ((0 : Nat) : Int) from rfl, h1]
    rw [Option.bind_some, Option.bind_some]
    have h2 : decide (r ≥ ((0 : Nat) : Int)) = !((o.drop 0).all okN) := h2
    rw [h2, List.drop_zero, decide_eq_true c]
    simp
  · rw [if_neg (by omega), decide_eq_false c]; rfl
theorem totOf_cons (p : S32) (l : List S32) : totOf (p :: l) = p.f1 + totOf l := rfl
theorem totOf_nil : totOf [] = 0 := rfl
theorem wOf_le : ∀ {l : List S32}, (∀ p ∈ l, 0 ≤ p.f1) → ∀ o, 0 ≤ wOf l o ∧ wOf l o ≤ totOf l
  | [], _, _ => ⟨Int.le_refl _, Int.le_refl _⟩
  | p :: l, h, o => by
    have := wOf_le (l := l) (fun q hq => h q (by simp [hq])) o
    have := h p (by simp)
    rw [totOf_cons, wOf_cons]
    split <;> omega
theorem tot_bd : ∀ {l : List S32}, (∀ p ∈ l, 0 ≤ p.f1 ∧ p.f1 ≤ 1073741824) → totOf l ≤ 1073741824 * (l.length : Int)
  | [], _ => Int.le_refl _
  | p :: l, h => by
    have := tot_bd (l := l) (fun q hq => h q (by simp [hq]))
    have := h p (by simp)
    rw [totOf_cons, List.length_cons]; omega
theorem totF (l : List S32) (hl : l.length ≤ 1048576) (h0 : ∀ p ∈ l, 0 ≤ p.f1) (ht : totOf l ≤ 4611686018427387904) : dist_total.F l = some (totOf l) :=
  ((dist_total.F_is l).iff _).2 (total_is l (by omega) h0 ht)
theorem mem_at {l : List S32} {i : Nat} (h : i < l.length) : l[i] ∈ l := List.getElem_mem h
end Go.Proofs.Ytkemhfhmlcljjaa.DistPure
end
section
namespace Go.Proofs.Ytkemhfhmlcljjaa.DistPure
set_option linter.unusedVariables false
set_option linter.unusedSimpArgs false
open Go.RowKit Go.Proofs.Ytkemhfhmlcljjaa.PE Go.Proofs.YtkemhfhmlcljjaaW.PrintWords Go.Proofs.YtkemhfhmlcljjaaW.PrintLast Go.Proofs.YtkemhfhmlcljjaaW.PrintMore Go.Proofs.YtkemhfhmlcljjaaW.EvKit
theorem gcd_pos {u d : Int} (h : 1 ≤ d) : 0 < Int.gcd u d := by
  rcases Nat.eq_zero_or_pos (Int.gcd u d) with h0 | h0
  · have := (Int.gcd_eq_zero_iff.1 h0).2
    omega
  · exact h0
theorem quot {u : Int} {g : Nat} (hu : 0 ≤ u) (hu2 : u ≤ 9223372036854775807) : wrap64 (Int.tdiv u (g : Int)) = u / (g : Int) := by
  rw [Int.tdiv_eq_ediv_of_nonneg hu]
  have h0 : 0 ≤ u / (g : Int) := Int.ediv_nonneg hu (by omega)
  have h1 : u / (g : Int) ≤ u := Int.ediv_le_self _ hu
  exact wrap64_of (by omega) (by omega)
theorem tm2 (x : Nat) : Int.tmod (x : Int) 2 = ((x % 2 : Nat) : Int) := by rw [Int.tmod_eq_emod_of_nonneg (by omega)]; rfl
theorem td2 (x : Nat) (h : x ≤ 9223372036854775807) : wrap64 (Int.tdiv (x : Int) 2) = ((x / 2 : Nat) : Int) := by
  rw [Int.tdiv_eq_ediv_of_nonneg (by omega), wrap64_of (by omega) (by omega)]; rfl
theorem div_l2 : ∀ (t a : Nat), t ≤ 4611686018427387904 → a * 2 ^ t ≤ 9223372036854775807 → Ev (fun k => hushref1_Divisor.l2 k (a : Int) (t : Int)) ((a * 2 ^ t : Nat) : Int) := by
  intro t
  induction t with
  | zero =>
    intro a _ _
    refine Ev.step (fun k => hushref1_Divisor.l2.eq_2 _ _ k) (Ev.neg (by omega) ?_)
    simpa using Ev.ret _
  | succ t ih =>
    intro a ht h
    have h1 : a ≤ a * 2 ^ t := Nat.le_mul_of_pos_right _ (Nat.two_pow_pos t)
    rw [Nat.pow_succ] at h
    have h2 : a * (2 ^ t * 2) = 2 * a * 2 ^ t := by rw [Nat.mul_comm (2 ^ t) 2, ← Nat.mul_assoc, Nat.mul_comm a 2]
    rw [h2] at h
    have h3 : 2 * a ≤ 2 * a * 2 ^ t := Nat.le_mul_of_pos_right _ (Nat.two_pow_pos t)
    have h4 := ih (2 * a) (by omega) h
    refine Ev.step (fun k => hushref1_Divisor.l2.eq_2 _ _ k) (Ev.pos (by omega) ?_)
    have e1 : wrap64 (2 * (a : Int)) = ((2 * a : Nat) : Int) := by rw [wrap64_of (by omega) (by omega)]; omega
    have e2 : wrap64 (((t + 1 : Nat) : Int) - 1) = ((t : Nat) : Int) := by rw [wrap64_of (by omega) (by omega)]; omega
    simp only [e1, e2]
    rw [Nat.pow_succ, h2]
    exact h4
theorem gcd_half {x y : Nat} (hx : x % 2 = 0) (hy : y % 2 = 1) : Nat.gcd (x / 2) y = Nat.gcd x y := by
  have h : x = 2 * (x / 2) := by omega
  have hc : Nat.Coprime 2 y := by
    unfold Nat.Coprime
    rw [Nat.gcd_rec, hy]
    decide
  rw [h]
  simp only [Nat.mul_div_cancel_left _ (show 0 < 2 by decide)]
  exact (Nat.Coprime.gcd_mul_left_cancel (x / 2) hc).symm
theorem div_l1 : ∀ (n x y t : Nat) {r : Int}, x + y ≤ n → 0 < x → 0 < y → (x % 2 = 1 ∨ y % 2 = 1) → x ≤ 9223372036854775807 → y ≤ 9223372036854775807 →
    Ev (fun k => hushref1_Divisor.l2 k ((Nat.gcd x y : Nat) : Int) (t : Int)) r → Ev (fun k => hushref1_Divisor.l1 k (x : Int) (y : Int) (t : Int)) r := by
  intro n
  induction n with
  | zero => intro x y t r h hx; omega
  | succ n ih =>
    intro x y t r h hx hy ho bx bY hr
    by_cases he : x = y
    · subst he
      rw [Nat.gcd_self] at hr
      exact Ev.step (fun k => hushref1_Divisor.l1.eq_2 _ _ _ k) (Ev.pos rfl hr)
    · refine Ev.step (fun k => hushref1_Divisor.l1.eq_2 _ _ _ k) (Ev.neg (by omega) ?_)
      rw [tm2, tm2, td2 x bx, td2 y bY]
      by_cases h0 : x % 2 = 0
      · refine Ev.pos (by omega) (ih (x / 2) y t (by omega) (by omega) hy (by omega) (by omega) bY ?_)
        rw [gcd_half h0 (by omega)]
        exact hr
      · refine Ev.neg (by omega) ?_
        by_cases h1 : y % 2 = 0
        · refine Ev.pos (by omega) (ih x (y / 2) t (by omega) hx (by omega) (by omega) bx (by omega) ?_)
          rw [Nat.gcd_comm, gcd_half h1 (by omega), Nat.gcd_comm]
          exact hr
        · refine Ev.neg (by omega) ?_
          by_cases h2 : x > y
          · refine Ev.pos (by omega) ?_
            have e : wrap64 ((x : Int) - (y : Int)) = ((x - y : Nat) : Int) := by rw [wrap64_of (by omega) (by omega)]; omega
            rw [e]
            refine ih (x - y) y t (by omega) (by omega) hy (by omega) (by omega) bY ?_
            rw [Nat.gcd_sub_self_left (by omega)]
            exact hr
          · refine Ev.neg (by omega) ?_
            have e : wrap64 ((y : Int) - (x : Int)) = ((y - x : Nat) : Int) := by rw [wrap64_of (by omega) (by omega)]; omega
            rw [e]
            refine ih x (y - x) t (by omega) hx (by omega) (by omega) bx (by omega) ?_
            rw [Nat.gcd_sub_self_right (by omega)]
            exact hr
theorem div_l0 : ∀ (n x y t : Nat) {r : Int}, x ≤ n → 0 < x → 0 < y → x ≤ 9223372036854775807 → y ≤ 9223372036854775807 → t + n ≤ 9223372036854775807 →
    Ev (fun k => hushref1_Divisor.l2 k ((Nat.gcd x y : Nat) : Int) (t : Int)) r → Ev (fun k => hushref1_Divisor.l0 k (x : Int) (y : Int) (t : Int)) r := by
  intro n
  induction n with
  | zero => intro x y t r h hx; omega
  | succ n ih =>
    intro x y t r h hx hy bx bY ht hr
    have hj : (x % 2 = 1 ∨ y % 2 = 1) → Ev (fun k => hushref1_Divisor.j1 k (x : Int) (y : Int) (t : Int)) r := fun ho =>
      Ev.step (fun k => hushref1_Divisor.j1.eq_2 _ _ _ k) (div_l1 (x + y) x y t (Nat.le_refl _) hx hy ho bx bY hr)
    refine Ev.step (fun k => hushref1_Divisor.l0.eq_2 _ _ _ k) ?_
    rw [tm2, tm2, td2 x bx, td2 y bY]
    by_cases h0 : x % 2 = 0
    · by_cases h1 : y % 2 = 0
      · have e : wrap64 ((t : Int) + 1) = ((t + 1 : Nat) : Int) := by rw [wrap64_of (by omega) (by omega)]; omega
        refine Ev.pos (by omega) (Ev.pos (by omega) ?_)
        rw [e]
        refine ih (x / 2) (y / 2) (t + 1) (by omega) (by omega) (by omega) (by omega) (by omega) (by omega) ?_
        have hg : Nat.gcd x y = 2 * Nat.gcd (x / 2) (y / 2) := by
          rw [← Nat.gcd_mul_left]
          congr 1 <;> omega
        have hle : Nat.gcd x y ≤ x := Nat.gcd_le_left y hx
        refine Ev.step (fun k => hushref1_Divisor.l2.eq_2 _ _ k) (Ev.pos (by omega) ?_)
        have e1 : wrap64 (2 * ((Nat.gcd (x / 2) (y / 2) : Nat) : Int)) = ((Nat.gcd x y : Nat) : Int) := by rw [wrap64_of (by omega) (by omega)]; omega
        have e2 : wrap64 (((t + 1 : Nat) : Int) - 1) = ((t : Nat) : Int) := by rw [wrap64_of (by omega) (by omega)]; omega
        simp only [e1, e2]
        exact hr
      · exact Ev.pos (by omega) (Ev.neg (by omega) (hj (by omega)))
    · exact Ev.neg (by omega) (hj (by omega))
theorem div_ev {u d : Int} (hu : 0 ≤ u) (hd : 1 ≤ d) (bu : u ≤ 9223372036854775807) (bd : d ≤ 9223372036854775807) : Ev (fun k => hushref1_Divisor.f k u d) ((Int.gcd u d : Nat) : Int) := by
  obtain ⟨x, rfl⟩ := Int.eq_ofNat_of_zero_le hu
  obtain ⟨y, rfl⟩ := Int.eq_ofNat_of_zero_le (show 0 ≤ d by omega)
  by_cases h0 : x = 0
  · subst h0
    refine Ev.pos rfl (Ev.eq (Ev.ret _) ?_)
    simp
  · refine Ev.neg (by omega) ?_
    show Ev (fun k => hushref1_Divisor.l0 k (x : Int) (y : Int) 0) ((Nat.gcd x y : Nat) : Int)
    refine div_l0 x x y 0 (Nat.le_refl _) (by omega) (by omega) (by omega) (by omega) (by omega) ?_
    refine Ev.eq (div_l2 0 (Nat.gcd x y) (by omega) ?_) (by simp)
    have := Nat.gcd_le_left y (show 0 < x by omega)
    simp
    omega
theorem divF {u d : Int} (hu : 0 ≤ u) (hd : 1 ≤ d) (bu : u ≤ 9223372036854775807) (bd : d ≤ 9223372036854775807) : hushref1_Divisor.F u d = some ((Int.gcd u d : Nat) : Int) := (hushref1_Divisor.F_is u d).of_ev (div_ev hu hd bu bd)
def makeS (u d : Int) : Int × Int × Int :=
  if u < 0 ∨ d < 1 then (0, 0, 3) else
  if u / (Int.gcd u d : Nat) > 1073741824 ∨ d / (Int.gcd u d : Nat) > 1073741824 then (0, 0, 4) else (u / (Int.gcd u d : Nat), d / (Int.gcd u d : Nat), 0)
theorem make_j {f : Nat → Option Int} {u d : Int} (hf : 0 ≤ u → 1 ≤ d → Ev f ((Int.gcd u d : Nat) : Int)) (hu : -9223372036854775808 ≤ u ∧ u ≤ 9223372036854775807) (hd : -9223372036854775808 ≤ d ∧ d ≤ 9223372036854775807) (b : Bool) (hb : b = decide (u < 0 ∨ d < 1)) :
    Ev (fun k => if b = true then (some (0, 0, 3)) else ((f k).bind fun t => (if t = 0 then (none) else (if (wrap64 (Int.tdiv u t)) > 1073741824 then (some (0, 0, 4)) else (if (wrap64 (Int.tdiv d t)) > 1073741824 then (some (0, 0, 4)) else (some (wrap64 (Int.tdiv u t), wrap64 (Int.tdiv d t), 0))))))) (makeS u d) := by
  subst hb
  unfold makeS
  by_cases hn : u < 0 ∨ d < 1
  · rw [if_pos hn]
    exact Ev.pos (by simpa using hn) (Ev.ret _)
  · rw [if_neg hn]
    have h1 : 0 ≤ u ∧ 1 ≤ d := by omega
    have hg := gcd_pos (u := u) h1.2
    refine Ev.neg (by simpa using hn) (Ev.bind (hf h1.1 h1.2) (Ev.neg (by omega) ?_))
    rw [quot h1.1 hu.2, quot (by omega) hd.2]
    by_cases c1 : u / (Int.gcd u d : Nat) > 1073741824
    · exact Ev.eq (r := (0, 0, 4)) (Ev.pos c1 (Ev.ret _)) (if_pos (Or.inl c1)).symm
    · by_cases c2 : d / (Int.gcd u d : Nat) > 1073741824
      · exact Ev.eq (r := (0, 0, 4)) (Ev.neg c1 (Ev.pos c2 (Ev.ret _))) (if_pos (Or.inr c2)).symm
      · exact Ev.eq (Ev.neg c1 (Ev.neg c2 (Ev.ret _))) (if_neg (by omega)).symm
end Go.Proofs.Ytkemhfhmlcljjaa.DistPure
end
section
namespace Go.Proofs.Ytkemhfhmlcljjaa.DistPure
set_option linter.unusedVariables false
set_option linter.unusedSimpArgs false
open Go.RowKit Go.Proofs.Ytkemhfhmlcljjaa.PE Go.Proofs.YtkemhfhmlcljjaaW.PrintWords Go.Proofs.YtkemhfhmlcljjaaW.PrintLast Go.Proofs.YtkemhfhmlcljjaaW.PrintMore Go.Proofs.YtkemhfhmlcljjaaW.EvKit
def Outs (l : List S32) (x : List Int) : Prop := ∃ p ∈ l, p.f0 = x ∧ 0 < p.f1
theorem wOf_ge : ∀ {l : List S32}, (∀ p ∈ l, 0 ≤ p.f1) → ∀ {p : S32}, p ∈ l → p.f1 ≤ wOf l p.f0
  | [], _, p, h => by cases h
  | q :: l, h0, p, h => by
    have h1 := h0 q (by simp)
    have h2 : ∀ p ∈ l, 0 ≤ p.f1 := fun x hx => h0 x (by simp [hx])
    rw [wOf_cons]
    rcases List.mem_cons.1 h with e | e
    · subst e
      rw [if_pos rfl]
      have := (wOf_le h2 p.f0).1
      omega
    · have := wOf_ge h2 e
      split <;> omega
theorem wOf_some : ∀ {l : List S32}, (∀ p ∈ l, 0 ≤ p.f1) → ∀ {o : List Int}, 0 < wOf l o → Outs l o
  | [], _, _, h => absurd h (Int.lt_irrefl 0)
  | q :: l, h0, o, h => by
    have h1 := h0 q (by simp)
    rw [wOf_cons] at h
    by_cases c : q.f0 = o ∧ 0 < q.f1
    · exact ⟨q, by simp, c⟩
    · have h2 : 0 < wOf l o := by
        by_cases e : q.f0 = o
        · rw [if_pos e] at h
          have : ¬ 0 < q.f1 := fun x => c ⟨e, x⟩
          omega
        · rw [if_neg e] at h; omega
      obtain ⟨p, hp, e⟩ := wOf_some (fun x hx => h0 x (by simp [hx])) h2
      exact ⟨p, by simp [hp], e⟩
theorem outs_iff {l D : List S32} (h : Canon l D) (h0 : ∀ p ∈ l, 0 ≤ p.f1) (x : List Int) : Outs l x ↔ ∃ q ∈ D, q.f0 = x := by
  have d0 : ∀ p ∈ D, 0 ≤ p.f1 := fun p hp => Int.le_of_lt (h.pos p hp)
  constructor
  · rintro ⟨p, hp, e, hpos⟩
    have := wOf_ge h0 hp
    rw [e, ← h.w] at this
    exact wOf_mem (by omega)
  · rintro ⟨q, hq, e⟩
    have := wOf_ge d0 hq
    have := h.pos q hq
    subst e
    exact wOf_some h0 (by rw [← h.w]; omega)
def Least (S : List Int → Prop) (o : List Int) (f : Bool) : Prop := (f = true → S o ∧ ∀ x, S x → cmpL o x ≤ 0) ∧ (f = false → ∀ x, ¬ S x)
theorem Least.new {S S' : List Int → Prop} {o v : List Int} (h : Least S o false) (hS : ∀ x, S' x ↔ S x ∨ x = v) : Least S' v true :=
  ⟨fun _ => ⟨(hS v).2 (.inr rfl), fun x hx => by
    rcases (hS x).1 hx with h1 | h1
    · exact absurd h1 (h.2 rfl x)
    · rw [h1, cmpL_self]; exact Int.le_refl 0⟩, fun c => by cases c⟩
theorem Least.lt {S S' : List Int → Prop} {o v : List Int} (h : Least S o true) (c : cmpL v o < 0) (hS : ∀ x, S' x ↔ S x ∨ x = v) : Least S' v true :=
  ⟨fun _ => ⟨(hS v).2 (.inr rfl), fun x hx => by
    rcases (hS x).1 hx with h1 | h1
    · exact cmpL_le_trans _ _ _ (Int.le_of_lt c) ((h.1 rfl).2 x h1)
    · rw [h1, cmpL_self]; exact Int.le_refl 0⟩, fun c => by cases c⟩
theorem Least.same {S S' : List Int → Prop} {o : List Int} {f : Bool} (h : Least S o f) (hS : ∀ x, S' x ↔ S x) : Least S' o f :=
  ⟨fun c => ⟨(hS o).2 (h.1 c).1, fun x hx => (h.1 c).2 x ((hS x).1 hx)⟩, fun c x hx => h.2 c x ((hS x).1 hx)⟩
theorem take_one {l : List S32} {i : Nat} (h : i < l.length) : l.take (i + 1) = l.take i ++ [l[i]] := by
  rw [List.take_add_one, List.getElem?_eq_getElem h]; rfl
theorem one_le {l : List S32} (h0 : ∀ p ∈ l, 0 ≤ p.f1) {p : S32} (h : p ∈ l) : p.f1 ≤ totOf l := by
  have h1 := wOf_ge h0 h
  have h2 := (wOf_le h0 p.f0).2
  omega
theorem tStep_len (d : List S32) (p : S32) : (tStep d p).length ≤ d.length + 1 := by
  unfold tStep
  split
  · omega
  · split
    · split
      · rw [List.length_append, List.length_dropLast, List.length_singleton]; omega
      · rw [List.length_append, List.length_singleton]; omega
    · rw [List.length_append, List.length_singleton]; omega
theorem tFold_len : ∀ (l d : List S32), (l.foldl tStep d).length ≤ d.length + l.length
  | [], d => by simp
  | p :: l, d => by
    have := tFold_len l (tStep d p)
    have := tStep_len d p
    rw [List.foldl_cons, List.length_cons]; omega
theorem tMerge_len (l : List S32) : (tMerge (sortP l)).length ≤ l.length := by
  have := tFold_len (sortP l) []
  rw [(sortP_perm l).length_eq, List.length_nil] at this
  unfold tMerge
  omega
theorem totOf_app : ∀ (a b : List S32), totOf (a ++ b) = totOf a + totOf b
  | [], b => by rw [totOf_nil]; exact (Int.zero_add _).symm
  | p :: a, b => by rw [List.cons_append, totOf_cons, totOf_cons, totOf_app a b]; omega
theorem totOf_perm {a b : List S32} (h : a.Perm b) : totOf a = totOf b := isum_perm (h.map _)
theorem tStep_tot (d : List S32) (p : S32) : totOf (tStep d p) = totOf d + p.f1 := by
  unfold tStep
  split
  · omega
  · split
    · rename_i q hq
      obtain ⟨d0, e⟩ : ∃ d0, d = d0 ++ [q] := List.getLast?_eq_some_iff.1 hq
      subst e
      split
      · rw [List.dropLast_concat, totOf_app, totOf_app, totOf_cons, totOf_cons, totOf_nil]
        show _ + (q.f1 + p.f1 + 0) = _
        omega
      · rw [totOf_app _ [p], totOf_cons p, totOf_nil]; omega
    · rw [totOf_app, totOf_cons, totOf_nil]; omega
theorem tFold_tot : ∀ (l d : List S32), totOf (l.foldl tStep d) = totOf d + totOf l
  | [], d => by rw [totOf_nil]; exact (Int.add_zero _).symm
  | p :: l, d => by rw [List.foldl_cons, tFold_tot, tStep_tot, totOf_cons]; omega
theorem tMerge_tot (l : List S32) : totOf (tMerge (sortP l)) = totOf l := by
  unfold tMerge
  rw [tFold_tot, totOf_perm (sortP_perm l), totOf_nil]; omega
end Go.Proofs.Ytkemhfhmlcljjaa.DistPure
end
section
namespace Go.Proofs.Ytkemhfhmlcljjaa.DistPure
set_option linter.unusedVariables false
set_option linter.unusedSimpArgs false
open Go.RowKit Go.Proofs.Ytkemhfhmlcljjaa.PE Go.Proofs.YtkemhfhmlcljjaaW.PrintWords Go.Proofs.YtkemhfhmlcljjaaW.PrintLast Go.Proofs.YtkemhfhmlcljjaaW.PrintMore Go.Proofs.YtkemhfhmlcljjaaW.EvKit
instance : DecidableEq S32 := fun p q => decidable_of_iff (p.f1 = q.f1 ∧ p.f0 = q.f0) (by cases p; cases q; simp only [S32.mk.injEq]; exact And.comm)
structure Bd (l : List S32) : Prop where
  len : l.length ≤ 1048576
  out : ∀ p ∈ l, p.f0.length ≤ 1048576
def okP (p : S32) : Bool := smallB p.f0 && (decide (0 ≤ p.f1) && decide (p.f1 ≤ 1073741824))
theorem okP_iff {p : S32} : okP p = true ↔ smallB p.f0 = true ∧ 0 ≤ p.f1 ∧ p.f1 ≤ 1073741824 := by simp [okP]
def makeP (l : List S32) : List S32 × Int := if l.all okP = true then tDone (tMerge (sortP l)) else ([], 3)
theorem all_ok {l : List S32} (h : l.all okP = true) : ∀ p ∈ l, 0 ≤ p.f1 ∧ p.f1 ≤ 1073741824 := fun p hp => (okP_iff.1 (List.all_eq_true.1 h p hp)).2
theorem all_tot {l : List S32} (h : l.all okP = true) (hl : l.length ≤ 1048576) : totOf l ≤ 4611686018427387904 := by
  have := tot_bd (all_ok h)
  omega
theorem tidyF (l : List S32) (hl : l.length ≤ 1048576) (h : l.all okP = true) : dist_tidy.F l = some (tDone (tMerge (sortP l))) := by
  rw [dist_tidy.F_eq, if_pos]
  unfold tGuard
  have := all_tot h hl
  simp only [Bool.and_eq_true, decide_eq_true_eq, List.all_eq_true]
  exact ⟨⟨by omega, fun p hp => (all_ok h p hp).1⟩, this⟩
theorem cloneF (o : List Int) (h : o.length ≤ 1048576) : slices_Clone_int_int.f o = some o := by
  unfold slices_Clone_int_int.f
  rw [if_pos (by omega)]
theorem make_loop (l : List S32) (h : Bd l) : ∀ (n i : Nat), i + n = l.length → (l.take i).all okP = true →
    dist_Make.L0 (l.take i) l (l.length : Int) (i : Int) = some (if (l.drop i).all okP = true then tDone (tMerge (sortP l)) else ([], 3)) := by
  have hl := h.len
  intro n
  induction n with
  | zero =>
    intro i hi ha
    rw [List.take_of_length_le (show l.length ≤ i by omega)] at ha ⊢
    rw [dist_Make.L0_eq, if_neg (by omega), tidyF l h.len ha, Option.bind_some, List.drop_of_length_le (show l.length ≤ i by omega)]
    rfl
  | succ n ih =>
    intro i hi ha
    have hxi : i < l.length := by omega
    have ho := h.out _ (mem_at hxi)
    rw [dist_Make.L0_eq, if_pos (by omega), if_pos (by omega), if_pos (by omega), rd32At hxi, smallF _ ho, Option.bind_some, List.drop_eq_getElem_cons hxi, List.all_cons]
    have e : okP l[i] = (smallB l[i].f0 && (decide (0 ≤ l[i].f1) && decide (l[i].f1 ≤ 1073741824))) := rfl
    cases c : smallB l[i].f0 with
    | false =>
      rw [if_neg (by decide), e, c]
      rfl
    | true =>
      rw [if_pos rfl]
      by_cases c1 : l[i].f1 < 0
      · rw [if_pos c1, if_neg]
        rw [e, decide_eq_false (show ¬ 0 ≤ l[i].f1 by omega)]
        simp
      · rw [if_neg c1]
        by_cases c2 : l[i].f1 > 1073741824
        · rw [if_pos c2, if_neg]
          rw [e, decide_eq_false (show ¬ l[i].f1 ≤ 1073741824 by omega)]
          simp
        · have hok : okP l[i] = true := okP_iff.2 ⟨c, by omega, by omega⟩
          rw [if_neg c2, cloneF _ ho, Option.bind_some, if_pos (by rw [List.length_take]; omega), hok, Bool.true_and, w1 (by omega)]
          have e2 : l.take i ++ [(⟨l[i].f0, l[i].f1⟩ : S32)] = l.take (i + 1) := (take_one hxi).symm
          rw [e2]
          exact ih (i + 1) (by omega) (by rw [take_one hxi, List.all_append, ha]; simp [hok])
theorem makeF1 (l : List S32) (h : Bd l) : dist_Make.F l = some (makeP l) := by
  rw [dist_Make.F_eq]
  exact make_loop l h l.length 0 (by omega) (by simp)
theorem tDone_bd {D : List S32} (h : Bd D) : Bd (tDone D).1 := by
  unfold tDone
  split
  · exact ⟨by simp, by simp⟩
  · split
    · exact ⟨by simp, by simp⟩
    · refine ⟨by simpa using h.len, fun p hp => ?_⟩
      obtain ⟨q, hq, rfl⟩ := List.mem_map.1 hp
      exact h.out q hq
theorem makeP_bd {l : List S32} (h : Bd l) : Bd (makeP l).1 := by
  unfold makeP
  split
  · rename_i c
    have h0 : ∀ p ∈ l, 0 ≤ p.f1 := fun p hp => (all_ok c p hp).1
    refine tDone_bd ⟨?_, fun q hq => ?_⟩
    · have := tMerge_len l
      have := h.len
      omega
    · obtain ⟨p, hp, e, _⟩ := (outs_iff (tidy_canon h0) h0 q.f0).2 ⟨q, hq, rfl⟩
      rw [← e]
      exact h.out p hp
  · exact ⟨by simp, by simp⟩
theorem s32_eq {p q : S32} : p = q ↔ p.f1 = q.f1 ∧ p.f0 = q.f0 := by
  cases p; cases q
  simp only [S32.mk.injEq]
  exact And.comm
theorem rsame_loop (a b : List S32) (ha : Bd a) (hb : Bd b) (hl : a.length = b.length) : ∀ (n i : Nat), i + n = a.length →
    hushref2_Same.L0 a b (a.length : Int) (i : Int) = some (decide (a.drop i = b.drop i)) := by
  have hla := ha.len
  intro n
  induction n with
  | zero =>
    intro i hi
    rw [hushref2_Same.L0_eq, if_neg (by omega), List.drop_of_length_le (show a.length ≤ i by omega), List.drop_of_length_le (show b.length ≤ i by omega)]
    rfl
  | succ n ih =>
    intro i hi
    have h1 : i < a.length := by omega
    have h2 : i < b.length := by omega
    rw [hushref2_Same.L0_eq, if_pos (by omega), if_pos (by omega), if_pos (by omega), if_pos (by omega), rd32At h1, rd32At h2, List.drop_eq_getElem_cons h1, List.drop_eq_getElem_cons h2]
    by_cases c1 : a[i].f1 = b[i].f1
    · rw [if_pos c1, rcmpF _ _ (ha.out _ (mem_at h1)) (hb.out _ (mem_at h2)), Option.bind_some]
      by_cases c2 : a[i].f0 = b[i].f0
      · rw [if_pos (cmpL0.2 c2), w1 (by omega), ih (i + 1) (by omega), show a[i] = b[i] from s32_eq.2 ⟨c1, c2⟩]
        congr 1
        rw [decide_eq_decide]
        exact ⟨fun h => by rw [h], fun h => by injection h⟩
      · rw [if_neg (fun h => c2 (cmpL0.1 h))]
        congr 1
        symm
        rw [decide_eq_false_iff_not]
        intro h
        injection h with h _
        exact c2 (by rw [h])
    · rw [if_neg c1]
      congr 1
      symm
      rw [decide_eq_false_iff_not]
      intro h
      injection h with h _
      exact c1 (by rw [h])
theorem rsameF (a b : List S32) (ha : Bd a) (hb : Bd b) : hushref2_Same.F a b = some (decide (a = b)) := by
  rw [hushref2_Same.F_eq]
  by_cases h : a.length = b.length
  · rw [if_pos (by omega)]
    exact rsame_loop a b ha hb h a.length 0 (by omega)
  · rw [if_neg (by omega)]
    congr 1
    symm
    rw [decide_eq_false_iff_not]
    intro e
    exact h (by rw [e])
theorem same_loop (a b : List S32) (ha : Bd a) (hb : Bd b) (hl : a.length = b.length) : ∀ (n i : Nat), i + n = a.length →
    api_Part.L0 b a (a.length : Int) (i : Int) = some (decide (a.drop i = b.drop i)) := by
  have hla := ha.len
  intro n
  induction n with
  | zero =>
    intro i hi
    rw [api_Part.L0_eq, if_neg (by omega), List.drop_of_length_le (show a.length ≤ i by omega), List.drop_of_length_le (show b.length ≤ i by omega)]
    rfl
  | succ n ih =>
    intro i hi
    have h1 : i < a.length := by omega
    have h2 : i < b.length := by omega
    rw [api_Part.L0_eq, if_pos (by omega), if_pos (by omega), if_pos (by omega), if_pos (by omega), rd32At h1, rd32At h2, List.drop_eq_getElem_cons h1, List.drop_eq_getElem_cons h2, dist_same_1.F_eq]
    by_cases c1 : a[i].f1 = b[i].f1
    · rw [if_pos c1, eqF _ _ (ha.out _ (mem_at h1)), Option.bind_some, Option.bind_some]
      by_cases c2 : a[i].f0 = b[i].f0
      · rw [if_pos (decide_eq_true c2), w1 (by omega), ih (i + 1) (by omega), show a[i] = b[i] from s32_eq.2 ⟨c1, c2⟩]
        congr 1
        rw [decide_eq_decide]
        exact ⟨fun h => by rw [h], fun h => by injection h⟩
      · rw [if_neg (by simpa using c2)]
        congr 1
        symm
        rw [decide_eq_false_iff_not]
        intro h
        injection h with h _
        exact c2 (by rw [h])
    · rw [if_neg c1, Option.bind_some, if_neg (by decide)]
      congr 1
      symm
      rw [decide_eq_false_iff_not]
      intro h
      injection h with h _
      exact c1 (by rw [h])
theorem sameF (a b : List S32) (ha : Bd a) (hb : Bd b) : dist_same.F a b = some (decide (a = b)) := by
  rw [dist_same.F_eq, api_Part.F_eq]
  by_cases h : a.length = b.length
  · rw [if_pos (by omega)]
    rw [show (0 : Int) = ((0 : Nat) : Int) from rfl, same_loop a b ha hb h a.length 0 (by omega)]
    rfl
  · rw [if_neg (by omega), Option.bind_some]
    congr 1
    symm
    rw [decide_eq_false_iff_not]
    intro e
    exact h (by rw [e])
def wrongP (d : List S32) : Int := if (makeP d).2 = 0 then (if d = (makeP d).1 then 0 else 2) else (makeP d).2
theorem wrongF (d : List S32) (h : Bd d) : dist_Wrong.F d = some (wrongP d) := by
  rw [dist_Wrong.F_eq, makeF1 d h, Option.bind_some]
  unfold wrongP
  by_cases c : (makeP d).2 = 0
  · rw [if_pos c, if_pos c, sameF _ _ h (makeP_bd h), Option.bind_some]
    by_cases c2 : d = (makeP d).1
    · rw [if_pos (decide_eq_true c2), if_pos c2, c]
    · rw [if_neg (by simpa using c2), if_neg c2]
  · rw [if_neg c, if_neg c]
structure Right (d : List S32) : Prop where
  ok : d.all okP = true
  st : Strict d
  pos : 0 < totOf d
  few : totOf d ≤ 1073741824
  much : d.length ≤ 4096
theorem div_sum (g : Int) (hg : 0 < g) : ∀ (D : List S32), totOf (D.map (fun p => (⟨p.f0, p.f1 / g⟩ : S32))) ≤ totOf D / g
  | [] => by rw [List.map_nil, totOf_nil, Int.zero_ediv]; exact Int.le_refl 0
  | p :: D => by
    have ih := div_sum g hg D
    rw [List.map_cons, totOf_cons, totOf_cons]
    have h1 := Int.ediv_mul_le p.f1 (show g ≠ 0 by omega)
    have h2 := Int.ediv_mul_le (totOf D) (show g ≠ 0 by omega)
    have h3 : p.f1 / g + totOf D / g ≤ (p.f1 + totOf D) / g := by
      rw [Int.le_ediv_iff_mul_le hg, Int.add_mul]
      omega
    show p.f1 / g + _ ≤ _
    omega
theorem right_of {d : List S32} (h : wrongP d = 0) : Right d := by
  unfold wrongP at h
  by_cases c : (makeP d).2 = 0
  · rw [if_pos c] at h
    by_cases c2 : d = (makeP d).1
    · unfold makeP at c c2
      by_cases ho : d.all okP = true
      · rw [if_pos ho] at c c2
        have h0 : ∀ p ∈ d, 0 ≤ p.f1 := fun p hp => (all_ok ho p hp).1
        have hc := tidy_canon h0
        have htot := tMerge_tot d
        unfold tDone at c c2
        by_cases e1 : tMerge (sortP d) = []
        · rw [if_pos e1] at c; cases c
        · rw [if_neg e1] at c c2
          have hg := gOf_pos hc.pos e1
          by_cases e2 : totOf (tMerge (sortP d)) / (gOf (tMerge (sortP d)) : Int) > 1073741824 ∨ (tMerge (sortP d)).length > 4096
          · rw [if_pos e2] at c; cases c
          · rw [if_neg e2] at c2
            dsimp only at c2
            have hs := div_sum (gOf (tMerge (sortP d)) : Int) (by omega) (tMerge (sortP d))
            have htot2 : 0 < totOf (tMerge (sortP d)) := by
              cases hD : tMerge (sortP d) with
              | nil => exact absurd hD e1
              | cons q D =>
                have hp := hc.pos q (by rw [hD]; simp)
                have h2 := one_le (l := tMerge (sortP d)) (fun p hp => Int.le_of_lt (hc.pos p hp)) (p := q) (by rw [hD]; simp)
                rw [hD] at h2
                omega
            refine ⟨ho, ?_, by omega, ?_, ?_⟩
            · rw [c2]
              unfold Strict
              rw [List.pairwise_map]
              exact hc.st
            · rw [← c2] at hs
              omega
            · have := congrArg List.length c2
              rw [List.length_map] at this
              omega
      · rw [if_neg ho] at c; cases c
    · rw [if_neg c2] at h; cases h
  · rw [if_neg c] at h; exact absurd h c
end Go.Proofs.Ytkemhfhmlcljjaa.DistPure
end
section
namespace Go.Proofs.Ytkemhfhmlcljjaa.DistPure
set_option linter.unusedVariables false
set_option linter.unusedSimpArgs false
open Go.RowKit Go.Proofs.Ytkemhfhmlcljjaa.PE Go.Proofs.YtkemhfhmlcljjaaW.PrintWords Go.Proofs.YtkemhfhmlcljjaaW.PrintLast Go.Proofs.YtkemhfhmlcljjaaW.PrintMore Go.Proofs.YtkemhfhmlcljjaaW.EvKit
theorem gOf_dvd_go : ∀ (d : List S32) (g : Nat), d.foldl (fun g p => Nat.gcd p.f1.toNat g) g ∣ g ∧ ∀ p ∈ d, d.foldl (fun g p => Nat.gcd p.f1.toNat g) g ∣ p.f1.toNat
  | [], g => ⟨Nat.dvd_refl _, fun p hp => by cases hp⟩
  | q :: d, g => by
    rw [List.foldl_cons]
    obtain ⟨h1, h2⟩ := gOf_dvd_go d (Nat.gcd q.f1.toNat g)
    refine ⟨Nat.dvd_trans h1 (Nat.gcd_dvd_right _ _), fun p hp => ?_⟩
    rcases List.mem_cons.1 hp with e | e
    · rw [e]; exact Nat.dvd_trans h1 (Nat.gcd_dvd_left _ _)
    · exact h2 p e
theorem gOf_dvd {d : List S32} {p : S32} (h : p ∈ d) : gOf d ∣ p.f1.toNat := (gOf_dvd_go d 0).2 p h
theorem gOf_max_go : ∀ (d : List S32) (g n : Nat), n ∣ g → (∀ p ∈ d, n ∣ p.f1.toNat) → n ∣ d.foldl (fun g p => Nat.gcd p.f1.toNat g) g
  | [], g, n, h, _ => h
  | q :: d, g, n, h, h0 => gOf_max_go d _ n (Nat.dvd_gcd (h0 q (by simp)) h) (fun p hp => h0 p (by simp [hp]))
theorem gOf_max {d : List S32} {n : Nat} (h : ∀ p ∈ d, n ∣ p.f1.toNat) : n ∣ gOf d := gOf_max_go d 0 n (Nat.dvd_zero n) h
theorem right_form {d : List S32} (h : wrongP d = 0) : ∃ D : List S32, (∀ p ∈ D, 0 < p.f1) ∧ D ≠ [] ∧ d = D.map (fun p => (⟨p.f0, p.f1 / (gOf D : Int)⟩ : S32)) := by
  unfold wrongP at h
  by_cases c : (makeP d).2 = 0
  · rw [if_pos c] at h
    by_cases c2 : d = (makeP d).1
    · unfold makeP at c c2
      by_cases ho : d.all okP = true
      · rw [if_pos ho] at c c2
        have hc := tidy_canon (fun p hp => (all_ok ho p hp).1)
        unfold tDone at c c2
        by_cases e1 : tMerge (sortP d) = []
        · rw [if_pos e1] at c; cases c
        · rw [if_neg e1] at c c2
          by_cases e2 : totOf (tMerge (sortP d)) / (gOf (tMerge (sortP d)) : Int) > 1073741824 ∨ (tMerge (sortP d)).length > 4096
          · rw [if_pos e2] at c; cases c
          · rw [if_neg e2] at c2
            exact ⟨_, hc.pos, e1, c2⟩
      · rw [if_neg ho] at c; cases c
    · rw [if_neg c2] at h; cases h
  · rw [if_neg c] at h; exact absurd h c
theorem div_pos' {p : Int} {g : Nat} (hp : 0 < p) (hg : 0 < g) (hd : g ∣ p.toNat) : ∃ m : Nat, 0 < m ∧ p / (g : Int) = (m : Int) ∧ p.toNat = g * m := by
  obtain ⟨m, hm⟩ := hd
  have e : p = ((g * m : Nat) : Int) := by rw [← hm]; omega
  refine ⟨m, ?_, ?_, hm⟩
  · rcases Nat.eq_zero_or_pos m with h | h
    · rw [h, Nat.mul_zero] at hm; omega
    · exact h
  · rw [e, Int.natCast_mul, Int.mul_ediv_cancel_left _ (by omega)]
theorem right_more {d : List S32} (h : wrongP d = 0) : (∀ p ∈ d, 0 < p.f1) ∧ gOf d = 1 := by
  obtain ⟨D, h0, hn, rfl⟩ := right_form h
  have hg := gOf_pos h0 hn
  have key : ∀ p ∈ D, ∃ m : Nat, 0 < m ∧ p.f1 / (gOf D : Int) = (m : Int) ∧ p.f1.toNat = gOf D * m := fun p hp => div_pos' (h0 p hp) hg (gOf_dvd hp)
  constructor
  · intro p hp
    obtain ⟨q, hq, rfl⟩ := List.mem_map.1 hp
    obtain ⟨m, h1, h2, _⟩ := key q hq
    show 0 < q.f1 / (gOf D : Int)
    omega
  · have h1 : gOf D * gOf (D.map (fun p => (⟨p.f0, p.f1 / (gOf D : Int)⟩ : S32))) ∣ gOf D := gOf_max (fun q hq => by
      obtain ⟨m, _, h2, h3⟩ := key q hq
      have h4 := gOf_dvd (List.mem_map.2 ⟨q, hq, rfl⟩ : (⟨q.f0, q.f1 / (gOf D : Int)⟩ : S32) ∈ D.map (fun p => (⟨p.f0, p.f1 / (gOf D : Int)⟩ : S32)))
      rw [h3]
      refine Nat.mul_dvd_mul_left _ ?_
      have h5 : (q.f1 / (gOf D : Int)).toNat = m := by rw [h2]; omega
      rw [← h5]
      exact h4)
    have h2 := Nat.le_of_dvd hg h1
    have h3 : 0 < gOf (D.map (fun p => (⟨p.f0, p.f1 / (gOf D : Int)⟩ : S32))) := by
      refine gOf_pos (fun p hp => ?_) (by simpa using hn)
      obtain ⟨q, hq, rfl⟩ := List.mem_map.1 hp
      obtain ⟨m, h1, h2, _⟩ := key q hq
      show 0 < q.f1 / (gOf D : Int)
      omega
    generalize gOf (D.map (fun p => (⟨p.f0, p.f1 / (gOf D : Int)⟩ : S32))) = x at *
    rcases Nat.lt_or_ge 1 x with c | c
    · have := Nat.mul_lt_mul_of_pos_left c hg
      omega
    · omega
def outsL (a b : List S32) : List (List Int) := a.map (·.f0) ++ (b.filter (fun p => decide (wOf a p.f0 = 0))).map (·.f0)
def pw (a b : List S32) (o : List Int) : Int × Int := (wOf a o, wOf b o)
theorem wOf_skip {p : S32} {a : List S32} {o : List Int} (h : p.f0 ≠ o) : wOf (p :: a) o = wOf a o := by rw [wOf_cons, if_neg h, Int.zero_add]
theorem wOf_hit {p : S32} {a : List S32} (h : Strict (p :: a)) : wOf (p :: a) p.f0 = p.f1 := by rw [wOf_cons, if_pos rfl, strict_head h, Int.add_zero]
theorem lt_ne {a b : List Int} (h : cmpL a b < 0) : a ≠ b := fun e => by rw [e, cmpL_self] at h; exact absurd h (Int.lt_irrefl 0)
theorem below_none {o : List Int} {b : List S32} (h : ∀ q ∈ b, cmpL o q.f0 < 0) : wOf b o = 0 := wOf_none _ _ (fun q hq e => lt_ne (h q hq) e.symm)
theorem outs_mem {a b : List S32} {o : List Int} (h : o ∈ outsL a b) : (∃ p ∈ a, p.f0 = o) ∨ (∃ q ∈ b, q.f0 = o) := by
  rcases List.mem_append.1 h with h | h
  · exact .inl (List.mem_map.1 h)
  · obtain ⟨q, hq, e⟩ := List.mem_map.1 h
    exact .inr ⟨q, (List.mem_filter.1 hq).1, e⟩
theorem filter_skip {p : S32} {a : List S32} : ∀ {b : List S32}, (∀ q ∈ b, p.f0 ≠ q.f0) → b.filter (fun q => decide (wOf (p :: a) q.f0 = 0)) = b.filter (fun q => decide (wOf a q.f0 = 0)) := fun h =>
  List.filter_congr (fun q hq => by rw [wOf_skip (h q hq)])
theorem side_l {p : S32} {a b : List S32} (hs : Strict (p :: a)) (hb : ∀ q ∈ b, cmpL p.f0 q.f0 < 0) : (outsL (p :: a) b).map (pw (p :: a) b) = (p.f1, 0) :: (outsL a b).map (pw a b) := by
  have hne : ∀ q ∈ b, p.f0 ≠ q.f0 := fun q hq => lt_ne (hb q hq)
  unfold outsL
  rw [filter_skip hne, List.map_cons, List.cons_append, List.map_cons]
  congr 1
  · unfold pw; rw [wOf_hit hs, below_none hb]
  · refine List.map_congr_left (fun o ho => ?_)
    have ho' : p.f0 ≠ o := by
      rcases outs_mem ho with ⟨q, hq, e⟩ | ⟨q, hq, e⟩
      · rw [← e]; exact lt_ne ((List.pairwise_cons.1 hs).1 q hq)
      · rw [← e]; exact hne q hq
    unfold pw; rw [wOf_skip ho']
theorem side_r {q : S32} {a b : List S32} (hs : Strict (q :: b)) (ha : ∀ p ∈ a, cmpL q.f0 p.f0 < 0) : ((outsL a (q :: b)).map (pw a (q :: b))).Perm ((0, q.f1) :: (outsL a b).map (pw a b)) := by
  have e0 : wOf a q.f0 = 0 := below_none ha
  have e1 : outsL a (q :: b) = a.map (·.f0) ++ q.f0 :: (b.filter (fun p => decide (wOf a p.f0 = 0))).map (·.f0) := by
    unfold outsL; rw [List.filter_cons_of_pos (by simpa using e0), List.map_cons]
  rw [e1]
  refine ((List.perm_middle (l₁ := a.map (·.f0))).map _).trans ?_
  rw [List.map_cons]
  have e2 : pw a (q :: b) q.f0 = (0, q.f1) := by unfold pw; rw [e0, wOf_hit hs]
  rw [e2]
  refine List.Perm.cons _ (List.Perm.of_eq ?_)
  refine List.map_congr_left (fun o ho => ?_)
  have ho' : q.f0 ≠ o := by
    rcases outs_mem (a := a) (b := b) ho with ⟨p, hp, e⟩ | ⟨p, hp, e⟩
    · rw [← e]; exact lt_ne (ha p hp)
    · rw [← e]; exact lt_ne ((List.pairwise_cons.1 hs).1 p hp)
  unfold pw; rw [wOf_skip ho']
theorem side_e {p q : S32} {a b : List S32} (hp : 0 < p.f1) (hsa : Strict (p :: a)) (hsb : Strict (q :: b)) (e : p.f0 = q.f0) : (outsL (p :: a) (q :: b)).map (pw (p :: a) (q :: b)) = (p.f1, q.f1) :: (outsL a b).map (pw a b) := by
  have hne : ∀ r ∈ b, p.f0 ≠ r.f0 := fun r hr => by rw [e]; exact lt_ne ((List.pairwise_cons.1 hsb).1 r hr)
  have h1 : wOf (p :: a) q.f0 = p.f1 := by rw [← e]; exact wOf_hit hsa
  unfold outsL
  rw [List.filter_cons_of_neg (by rw [h1]; simp; omega), filter_skip hne, List.map_cons, List.cons_append, List.map_cons]
  congr 1
  · unfold pw; rw [wOf_hit hsa, e, wOf_hit hsb]
  · refine List.map_congr_left (fun o ho => ?_)
    have ho' : p.f0 ≠ o := by
      rcases outs_mem (a := a) (b := b) ho with ⟨r, hr, e2⟩ | ⟨r, hr, e2⟩
      · rw [← e2]; exact lt_ne ((List.pairwise_cons.1 hsa).1 r hr)
      · rw [← e2]; exact hne r hr
    unfold pw; rw [wOf_skip ho', wOf_skip (by rw [← e]; exact ho')]
theorem strict_tail {p : S32} {a : List S32} (h : Strict (p :: a)) : Strict a := (List.pairwise_cons.1 h).2
theorem pairs_perm : ∀ (n : Nat) (a b : List S32), a.length + b.length ≤ n → Strict a → Strict b → (∀ p ∈ a, 0 < p.f1) → (pairsL a b).Perm ((outsL a b).map (pw a b))
  | n, [], [], _, _, _, _ => by rw [pairs_nil]; exact List.Perm.refl _
  | 0, _ :: _, _, h, _, _, _ => by simp at h
  | 0, [], _ :: _, h, _, _, _ => by simp at h
  | n + 1, [], q :: b, h, ha, hb, h0 => by
    rw [pairs_r]
    exact (List.Perm.cons _ (pairs_perm n [] b (by simp at h ⊢; omega) ha (strict_tail hb) h0)).trans (side_r hb (fun p hp => by cases hp)).symm
  | n + 1, p :: a, [], h, ha, hb, h0 => by
    rw [pairs_l, side_l ha (fun q hq => by cases hq)]
    exact List.Perm.cons _ (pairs_perm n a [] (by simp at h ⊢; omega) (strict_tail ha) hb (fun x hx => h0 x (by simp [hx])))
  | n + 1, p :: a, q :: b, h, ha, hb, h0 => by
    by_cases h1 : cmpL p.f0 q.f0 < 0
    · rw [pairs_lt _ _ h1, side_l ha (fun r hr => by
        rcases List.mem_cons.1 hr with c | c
        · rw [c]; exact h1
        · exact cmpL_trans _ _ _ h1 ((List.pairwise_cons.1 hb).1 r c))]
      exact List.Perm.cons _ (pairs_perm n a (q :: b) (by simp at h ⊢; omega) (strict_tail ha) hb (fun x hx => h0 x (by simp [hx])))
    · by_cases h2 : cmpL p.f0 q.f0 > 0
      · rw [pairs_gt _ _ h2]
        have h3 : cmpL q.f0 p.f0 < 0 := by have := cmpL_swap p.f0 q.f0; omega
        exact (List.Perm.cons _ (pairs_perm n (p :: a) b (by simp at h ⊢; omega) ha (strict_tail hb) h0)).trans (side_r hb (fun r hr => by
          rcases List.mem_cons.1 hr with c | c
          · rw [c]; exact h3
          · exact cmpL_trans _ _ _ h3 ((List.pairwise_cons.1 ha).1 r c))).symm
      · rw [pairs_eq _ _ (by omega), side_e (h0 p (by simp)) ha hb (cmpL_eq _ _ (by omega))]
        exact List.Perm.cons _ (pairs_perm n a b (by simp at h ⊢; omega) (strict_tail ha) (strict_tail hb) (fun x hx => h0 x (by simp [hx])))
theorem pairs_perm' {a b : List S32} (ha : Strict a) (hb : Strict b) (h0 : ∀ p ∈ a, 0 < p.f1) : (pairsL a b).Perm ((outsL a b).map (pw a b)) := pairs_perm _ a b (Nat.le_refl _) ha hb h0
end Go.Proofs.Ytkemhfhmlcljjaa.DistPure
end
section
namespace Go.Proofs.Ytkemhfhmlcljjaa.DistPure
set_option linter.unusedVariables false
set_option linter.unusedSimpArgs false
open Go.RowKit Go.Proofs.Ytkemhfhmlcljjaa.PE Go.Proofs.YtkemhfhmlcljjaaW.PrintWords Go.Proofs.YtkemhfhmlcljjaaW.PrintLast Go.Proofs.YtkemhfhmlcljjaaW.PrintMore Go.Proofs.YtkemhfhmlcljjaaW.EvKit
def le2 (f g : Nat × Nat) : Prop := f.1 * g.2 ≤ g.1 * f.2
def pos2 (f : Nat × Nat) : Prop := 1 ≤ f.1 ∧ 1 ≤ f.2
theorem le2_refl (f : Nat × Nat) : le2 f f := Nat.le_refl _
theorem le2_trans {f g h : Nat × Nat} (hg : 1 ≤ g.2) (h1 : le2 f g) (h2 : le2 g h) : le2 f h := by
  unfold le2 at *
  have a : f.1 * g.2 * h.2 ≤ g.1 * f.2 * h.2 := Nat.mul_le_mul_right _ h1
  have b : g.1 * h.2 * f.2 ≤ h.1 * g.2 * f.2 := Nat.mul_le_mul_right _ h2
  have c : f.1 * h.2 * g.2 ≤ h.1 * f.2 * g.2 := by
    calc f.1 * h.2 * g.2 = f.1 * g.2 * h.2 := by rw [Nat.mul_assoc, Nat.mul_comm h.2, ← Nat.mul_assoc]
      _ ≤ g.1 * f.2 * h.2 := a
      _ = g.1 * h.2 * f.2 := by rw [Nat.mul_assoc, Nat.mul_comm f.2, ← Nat.mul_assoc]
      _ ≤ h.1 * g.2 * f.2 := b
      _ = h.1 * f.2 * g.2 := by rw [Nat.mul_assoc, Nat.mul_comm g.2, ← Nat.mul_assoc]
  exact Nat.le_of_mul_le_mul_right c hg
structure Mx (s : Nat × Nat) (F : List (Nat × Nat)) : Prop where
  pos : pos2 s
  one : le2 (1, 1) s
  ub : ∀ f ∈ F, le2 f s
  got : le2 s (1, 1) ∨ ∃ f ∈ F, le2 s f
theorem Mx.start : Mx (1, 1) [] := ⟨⟨Nat.le_refl _, Nat.le_refl _⟩, le2_refl _, fun f hf => (by cases hf), .inl (le2_refl _)⟩
theorem Mx.keep {s f : Nat × Nat} {F : List (Nat × Nat)} (h : Mx s F) (hf : le2 f s) : Mx s (F ++ [f]) :=
  ⟨h.pos, h.one, fun g hg => by
    rcases List.mem_append.1 hg with hg | hg
    · exact h.ub g hg
    · rw [List.mem_singleton.1 hg]; exact hf, by
    rcases h.got with h | ⟨g, hg, h⟩
    · exact .inl h
    · exact .inr ⟨g, by simp [hg], h⟩⟩
theorem Mx.take {s f t : Nat × Nat} {F : List (Nat × Nat)} (h : Mx s F) (ht : pos2 t) (hf : le2 s f) (h1 : le2 f t) (h2 : le2 t f) (hfp : pos2 f) : Mx t (F ++ [f]) :=
  ⟨ht, le2_trans hfp.2 (le2_trans h.pos.2 h.one hf) h1, fun g hg => by
    rcases List.mem_append.1 hg with hg | hg
    · exact le2_trans hfp.2 (le2_trans h.pos.2 (h.ub g hg) hf) h1
    · rw [List.mem_singleton.1 hg]; exact h1, .inr ⟨f, by simp, h2⟩⟩
theorem Mx.le {s t : Nat × Nat} {F G : List (Nat × Nat)} (h : Mx s F) (k : Mx t G) (hF : ∀ f ∈ F, pos2 f ∧ ∃ g ∈ G, pos2 g ∧ le2 f g) : le2 s t := by
  rcases h.got with c | ⟨f, hf, c⟩
  · exact le2_trans (Nat.le_refl 1) c k.one
  · obtain ⟨h1, g, hg, h2, h3⟩ := hF f hf
    exact le2_trans h1.2 c (le2_trans h2.2 h3 (k.ub g hg))
def hl (ta tb : Nat) (x : Int × Int) : Nat × Nat := (fHi ta tb x, fLo ta tb x)
def uv (ta tb : Nat) (x : Int × Int) : Nat × Nat := (x.1.toNat * tb, x.2.toNat * ta)
theorem div_same {a g : Nat} (h : g ∣ a) : a / g * g = a := Nat.div_mul_cancel h
theorem UV_eq {ta tb : Nat} {x : Int × Int} (hg : 1 ≤ fG ta tb x) : le2 (hl ta tb x) (fU ta tb x, fV ta tb x) ∧ le2 (fU ta tb x, fV ta tb x) (hl ta tb x) ∧ Nat.gcd (fU ta tb x) (fV ta tb x) = 1 := by
  have d1 : fG ta tb x ∣ fHi ta tb x := Nat.gcd_dvd_right _ _
  have d2 : fG ta tb x ∣ fLo ta tb x := Nat.gcd_dvd_left _ _
  have e1 : fU ta tb x * fG ta tb x = fHi ta tb x := div_same d1
  have e2 : fV ta tb x * fG ta tb x = fLo ta tb x := div_same d2
  have e : fHi ta tb x * fV ta tb x = fU ta tb x * fLo ta tb x := by rw [← e1, ← e2, Nat.mul_assoc, Nat.mul_comm (fG ta tb x)]
  refine ⟨Nat.le_of_eq e, Nat.le_of_eq e.symm, ?_⟩
  unfold fU fV
  rw [Nat.gcd_comm]
  exact Nat.coprime_div_gcd_div_gcd (m := fLo ta tb x) (n := fHi ta tb x) hg
theorem fStep_mx {ta tb : Nat} (ha : 1 ≤ ta) (ha' : ta ≤ 1073741824) (hb : 1 ≤ tb) (hb' : tb ≤ 1073741824) {x : Int × Int} (h : pOk x) (h0 : pNo x) {s : Nat × Nat} {F : List (Nat × Nat)} (hm : Mx s F) (hc : Nat.gcd s.1 s.2 = 1) :
    Mx (fStep ta tb s x) (F ++ [hl ta tb x]) ∧ Nat.gcd (fStep ta tb s x).1 (fStep ta tb s x).2 = 1 := by
  obtain ⟨b1, b2, b3, b4, b5, c1, c2, c3, c4⟩ := f_bd ha ha' hb hb' h h0
  obtain ⟨e1, e2, e3⟩ := UV_eq b4
  have hp : pos2 (hl ta tb x) := ⟨Nat.le_trans b1 b2, b1⟩
  have hq : pos2 (fU ta tb x, fV ta tb x) := ⟨c1, c3⟩
  unfold fStep
  by_cases c : fB ta tb s x = true
  · rw [if_pos c]
    have c' : s.1 * fV ta tb x < fU ta tb x * s.2 := of_decide_eq_true c
    exact ⟨hm.take hq (le2_trans (g := (fU ta tb x, fV ta tb x)) hq.2 (Nat.le_of_lt c') e2) e1 e2 hp, e3⟩
  · rw [if_neg c]
    have c' : ¬ s.1 * fV ta tb x < fU ta tb x * s.2 := fun h => c (decide_eq_true h)
    exact ⟨hm.keep (le2_trans (g := (fU ta tb x, fV ta tb x)) hq.2 e1 (Nat.le_of_not_lt c')), hc⟩
theorem fold_mx {ta tb : Nat} (ha : 1 ≤ ta) (ha' : ta ≤ 1073741824) (hb : 1 ≤ tb) (hb' : tb ≤ 1073741824) : ∀ (L : List (Int × Int)) (s : Nat × Nat) (F : List (Nat × Nat)), (∀ x ∈ L, pOk x ∧ pNo x) → Mx s F → Nat.gcd s.1 s.2 = 1 →
    Mx (L.foldl (fStep ta tb) s) (F ++ L.map (hl ta tb)) ∧ Nat.gcd (L.foldl (fStep ta tb) s).1 (L.foldl (fStep ta tb) s).2 = 1
  | [], s, F, _, h, hc => by rw [List.map_nil, List.append_nil]; exact ⟨h, hc⟩
  | x :: L, s, F, h0, h, hc => by
    obtain ⟨h1, h2⟩ := fStep_mx ha ha' hb hb' (h0 x (by simp)).1 (h0 x (by simp)).2 h hc
    have := fold_mx ha ha' hb hb' L _ _ (fun y hy => h0 y (by simp [hy])) h1 h2
    rw [List.foldl_cons, List.map_cons]
    rw [List.append_assoc] at this
    exact this
theorem fFold_mx {ta tb : Nat} (ha : 1 ≤ ta) (ha' : ta ≤ 1073741824) (hb : 1 ≤ tb) (hb' : tb ≤ 1073741824) {L : List (Int × Int)} (h0 : ∀ x ∈ L, pOk x ∧ pNo x) : Mx (fFold ta tb L) (L.map (hl ta tb)) ∧ Nat.gcd (fFold ta tb L).1 (fFold ta tb L).2 = 1 := by
  have := fold_mx ha ha' hb hb' L (1, 1) [] h0 Mx.start rfl
  rw [List.nil_append] at this
  exact this
def two (ta tb : Nat) (x : Int × Int) : List (Nat × Nat) := [uv ta tb x, (uv ta tb x).swap]
theorem uv_bd {ta tb : Nat} (ha : 1 ≤ ta) (ha' : ta ≤ 1073741824) (hb : 1 ≤ tb) (hb' : tb ≤ 1073741824) {x : Int × Int} (h : pOk x) (h0 : pNo x) : sOk (uv ta tb x) := by
  obtain ⟨h1, h2, h3, h4⟩ := h
  obtain ⟨n1, n2⟩ := h0
  have m1 := p_mul (a := x.1.toNat) (t := tb) (by omega) (by omega) hb hb'
  have m2 := p_mul (a := x.2.toNat) (t := ta) (by omega) (by omega) ha ha'
  exact ⟨m1.1, m1.2, m2.1, m2.2⟩
theorem hl_uv (ta tb : Nat) (x : Int × Int) : hl ta tb x = uv ta tb x ∨ hl ta tb x = (uv ta tb x).swap := by
  unfold hl uv fHi fLo
  rcases Nat.le_total (x.1.toNat * tb) (x.2.toNat * ta) with c | c
  · right; rw [Nat.max_eq_right c, Nat.min_eq_left c]; rfl
  · left; rw [Nat.max_eq_left c, Nat.min_eq_right c]
theorem uv_hl (ta tb : Nat) (x : Int × Int) : le2 (uv ta tb x) (hl ta tb x) ∧ le2 (uv ta tb x).swap (hl ta tb x) := by
  unfold le2 hl uv fHi fLo Prod.swap
  dsimp only
  generalize x.1.toNat * tb = u
  generalize x.2.toNat * ta = v
  rcases Nat.le_total u v with c | c
  · rw [Nat.max_eq_right c, Nat.min_eq_left c]
    exact ⟨Nat.mul_le_mul c c, Nat.le_refl _⟩
  · rw [Nat.max_eq_left c, Nat.min_eq_right c]
    exact ⟨Nat.le_refl _, Nat.mul_le_mul c c⟩
end Go.Proofs.Ytkemhfhmlcljjaa.DistPure
end
section
namespace Go.Proofs.Ytkemhfhmlcljjaa.DistPure
open Go.RowKit Go.Proofs.Ytkemhfhmlcljjaa.PE Go.Proofs.YtkemhfhmlcljjaaW.PrintWords Go.Proofs.YtkemhfhmlcljjaaW.PrintLast Go.Proofs.YtkemhfhmlcljjaaW.PrintMore Go.Proofs.YtkemhfhmlcljjaaW.EvKit
set_option linter.unusedVariables false
set_option linter.unusedSimpArgs false
end Go.Proofs.Ytkemhfhmlcljjaa.DistPure
end
section
namespace Go.Proofs.Ytkemhfhmlcljjaa.PE
open Go.RowKit Go.Proofs.YtkemhfhmlcljjaaW.PrintWords Go.Proofs.YtkemhfhmlcljjaaW.PrintLast Go.Proofs.YtkemhfhmlcljjaaW.PrintMore
open Go.Proofs.YtkemhfhmlcljjaaW.EvKit
set_option linter.unusedVariables false
noncomputable def dist_more.L0 (x0 : Int) (x1 : Int) (x2 : Int) (x3 : Int) : Option (Bool) := lim (fun k => dist_more.l0 k x0 x1 x2 x3)
theorem dist_more.L0_is (x0 : Int) (x1 : Int) (x2 : Int) (x3 : Int) : LimIs (fun k => dist_more.l0 k x0 x1 x2 x3) (dist_more.L0 x0 x1 x2 x3) := ⟨fun k => (dist_more.mono_l k) x0 x1 x2 x3, rfl⟩
noncomputable def dist_more.F (a0 : Int) (a1 : Int) (a2 : Int) (a3 : Int) : Option (Bool) := lim (fun k => dist_more.f k a0 a1 a2 a3)
theorem dist_more.F_is (a0 : Int) (a1 : Int) (a2 : Int) (a3 : Int) : LimIs (fun k => dist_more.f k a0 a1 a2 a3) (dist_more.F a0 a1 a2 a3) := ⟨fun k => dist_more.mono a0 a1 a2 a3 k, rfl⟩
set_option maxRecDepth 100000 in
theorem dist_more.L0_eq (x0 : Int) (x1 : Int) (x2 : Int) (x3 : Int) : dist_more.L0 x0 x1 x2 x3 = if x1 = 0 then (none) else (if x3 = 0 then (none) else (if (wrap64 (Int.tdiv x0 x1)) = (wrap64 (Int.tdiv x2 x3)) then (if (Int.tmod x0 x1) = 0 then (some (decide ((Int.tmod x0 x1) > 0))) else (if (Int.tmod x2 x3) = 0 then (some (decide ((Int.tmod x0 x1) > 0))) else (dist_more.L0 x3 (Int.tmod x2 x3) x1 (Int.tmod x0 x1)))) else (some (decide ((wrap64 (Int.tdiv x0 x1)) > (wrap64 (Int.tdiv x2 x3))))))) := by
  refine LimIs.step' (dist_more.L0_is x0 x1 x2 x3).1 (b := fun k => if x1 = 0 then (none) else (if x3 = 0 then (none) else (if (wrap64 (Int.tdiv x0 x1)) = (wrap64 (Int.tdiv x2 x3)) then (if (Int.tmod x0 x1) = 0 then (some (decide ((Int.tmod x0 x1) > 0))) else (if (Int.tmod x2 x3) = 0 then (some (decide ((Int.tmod x0 x1) > 0))) else (dist_more.l0 k x3 (Int.tmod x2 x3) x1 (Int.tmod x0 x1)))) else (some (decide ((wrap64 (Int.tdiv x0 x1)) > (wrap64 (Int.tdiv x2 x3)))))))) (fun k => by first | rfl | rw [dist_more.l0]) ?_
  repeat' first
    | (with_reducible exact dist_more.L0_is _ _ _ _)
    | (with_reducible exact LimIs.const _)
    | (with_reducible refine LimIs.ite ?_ ?_)
    | (with_reducible refine LimIs.bind ?_ (fun _ => ?_))
    | exact dist_more.L0_is _ _ _ _
    | exact LimIs.const _
    | refine LimIs.ite ?_ ?_
    | refine LimIs.bind ?_ (fun _ => ?_)
set_option maxRecDepth 100000 in
theorem dist_more.F_eq (a0 : Int) (a1 : Int) (a2 : Int) (a3 : Int) : dist_more.F a0 a1 a2 a3 = dist_more.L0 a0 a1 a2 a3 := by
  refine LimIs.out (?_ : LimIs (fun k => dist_more.l0 k a0 a1 a2 a3) _)
  repeat' first
    | (with_reducible exact dist_more.L0_is _ _ _ _)
    | (with_reducible exact LimIs.const _)
    | (with_reducible refine LimIs.ite ?_ ?_)
    | (with_reducible refine LimIs.bind ?_ (fun _ => ?_))
    | exact dist_more.L0_is _ _ _ _
    | exact LimIs.const _
    | refine LimIs.ite ?_ ?_
    | refine LimIs.bind ?_ (fun _ => ?_)
end Go.Proofs.Ytkemhfhmlcljjaa.PE
end
section
namespace Go.Proofs.Ytkemhfhmlcljjaa.PE
open Go.RowKit Go.Proofs.YtkemhfhmlcljjaaW.PrintWords Go.Proofs.YtkemhfhmlcljjaaW.PrintLast Go.Proofs.YtkemhfhmlcljjaaW.PrintMore
open Go.Proofs.YtkemhfhmlcljjaaW.EvKit
set_option linter.unusedVariables false
noncomputable def dist_Far.F (l0 : List S32) (l1 : List S32) : Option (Int × Int × Int) := lim (fun k => dist_Far.f k l0 l1)
theorem dist_Far.F_is (l0 : List S32) (l1 : List S32) : LimIs (fun k => dist_Far.f k l0 l1) (dist_Far.F l0 l1) := ⟨fun k => dist_Far.mono l0 l1 k, rfl⟩
noncomputable def dist_Apart.F (l0 : List S32) (l1 : List S32) : Option (Int × Int × Int) := lim (fun k => dist_Apart.f k l0 l1)
theorem dist_Apart.F_is (l0 : List S32) (l1 : List S32) : LimIs (fun k => dist_Apart.f k l0 l1) (dist_Apart.F l0 l1) := ⟨fun k => dist_Apart.mono l0 l1 k, rfl⟩
set_option maxRecDepth 100000 in
theorem dist_Far.F_eq (l0 : List S32) (l1 : List S32) : dist_Far.F l0 l1 = (dist_wrongs.F [l0, l1]).bind fun e => if e = 0 then ((dist_total.F l0).bind fun ta => (dist_total.F l1).bind fun tb => if dGuard l0 l1 ta tb = true then some (farVal ta tb (pairsL l0 l1)) else none) else some (0, 0, e) := by
  refine LimIs.out (?_ : LimIs (fun k => (dist_wrongs.f k [l0, l1]).bind fun e => if e = 0 then ((dist_total.f k l0).bind fun ta => (dist_total.f k l1).bind fun tb => if dGuard l0 l1 ta tb = true then some (farVal ta tb (pairsL l0 l1)) else none) else some (0, 0, e)) _)
  repeat' first
    | (with_reducible exact dist_wrongs.F_is _)
    | (with_reducible exact dist_total.F_is _)
    | (with_reducible exact LimIs.const _)
    | (with_reducible refine LimIs.ite ?_ ?_)
    | (with_reducible refine LimIs.bind ?_ (fun _ => ?_))
    | exact dist_wrongs.F_is _
    | exact dist_total.F_is _
    | exact LimIs.const _
    | refine LimIs.ite ?_ ?_
    | refine LimIs.bind ?_ (fun _ => ?_)
set_option maxRecDepth 100000 in
theorem dist_Apart.F_eq (l0 : List S32) (l1 : List S32) : dist_Apart.F l0 l1 = (dist_wrongs.F [l0, l1]).bind fun e => if e = 0 then ((dist_total.F l0).bind fun ta => (dist_total.F l1).bind fun tb => if dSize l0 = true then (if dSize l1 = true then ((dist_gcd.F (wrap64 (ta * tb)) (apN ta tb (pairsL l0 l1))).bind fun g => if g = 0 then none else some (apOut (wrap64 (Int.tdiv (apN ta tb (pairsL l0 l1)) g)) (wrap64 (Int.tdiv (wrap64 (ta * tb)) g)))) else none) else none) else some (0, 0, e) := by
  refine LimIs.out (?_ : LimIs (fun k => (dist_wrongs.f k [l0, l1]).bind fun e => if e = 0 then ((dist_total.f k l0).bind fun ta => (dist_total.f k l1).bind fun tb => if dSize l0 = true then (if dSize l1 = true then ((dist_gcd.f k (wrap64 (ta * tb)) (apN ta tb (pairsL l0 l1))).bind fun g => if g = 0 then none else some (apOut (wrap64 (Int.tdiv (apN ta tb (pairsL l0 l1)) g)) (wrap64 (Int.tdiv (wrap64 (ta * tb)) g)))) else none) else none) else some (0, 0, e)) _)
  repeat' first
    | (with_reducible exact dist_wrongs.F_is _)
    | (with_reducible exact dist_total.F_is _)
    | (with_reducible exact dist_gcd.F_is _ _)
    | (with_reducible exact LimIs.const _)
    | (with_reducible refine LimIs.ite ?_ ?_)
    | (with_reducible refine LimIs.bind ?_ (fun _ => ?_))
    | exact dist_wrongs.F_is _
    | exact dist_total.F_is _
    | exact dist_gcd.F_is _ _
    | exact LimIs.const _
    | refine LimIs.ite ?_ ?_
    | refine LimIs.bind ?_ (fun _ => ?_)
end Go.Proofs.Ytkemhfhmlcljjaa.PE
end
section
namespace Go.Proofs.Ytkemhfhmlcljjaa.DistPure
set_option linter.unusedVariables false
set_option linter.unusedSimpArgs false
open Go.RowKit Go.Proofs.Ytkemhfhmlcljjaa.PE Go.Proofs.YtkemhfhmlcljjaaW.PrintWords Go.Proofs.YtkemhfhmlcljjaaW.PrintLast Go.Proofs.YtkemhfhmlcljjaaW.PrintMore Go.Proofs.YtkemhfhmlcljjaaW.EvKit
structure RD (d : List S32) : Prop where
  bd : Bd d
  wr : wrongP d = 0
theorem RD.right {d : List S32} (h : RD d) : Right d := right_of h.wr
theorem RD.pw {d : List S32} (h : RD d) : ∀ p ∈ d, 0 < p.f1 := (right_more h.wr).1
theorem RD.nn {d : List S32} (h : RD d) : ∀ p ∈ d, 0 ≤ p.f1 := fun p hp => Int.le_of_lt (h.pw p hp)
theorem RD.tD {d : List S32} (h : RD d) : dist_total.F d = some (totOf d) := totF d h.bd.len h.nn (by have := h.right.few; omega)
theorem RD.wbd {d : List S32} (h : RD d) (o : List Int) : 0 ≤ wOf d o ∧ wOf d o ≤ 1073741824 := by
  have := wOf_le h.nn o
  have := h.right.few
  omega
structure Two (a b : List S32) : Prop where
  a : RD a
  b : RD b
theorem Two.ok {a b : List S32} (h : Two a b) (o : List Int) : pOk (pw a b o) := by
  have h1 := h.a.wbd o
  have h2 := h.b.wbd o
  exact ⟨h1.1, h1.2, h2.1, h2.2⟩
theorem Two.t {a b : List S32} (h : Two a b) : ∃ ta tb : Nat, totOf a = (ta : Int) ∧ totOf b = (tb : Int) ∧ 1 ≤ ta ∧ ta ≤ 1073741824 ∧ 1 ≤ tb ∧ tb ≤ 1073741824 := by
  have h1 := h.a.right
  have h2 := h.b.right
  refine ⟨(totOf a).toNat, (totOf b).toNat, ?_⟩
  have := h1.pos; have := h1.few; have := h2.pos; have := h2.few
  omega
theorem Two.perm {a b : List S32} (h : Two a b) : (pairsL a b).Perm ((outsL a b).map (pw a b)) := pairs_perm' h.a.right.st h.b.right.st h.a.pw
theorem Two.pok {a b : List S32} (h : Two a b) : ∀ x ∈ pairsL a b, pOk x := fun x hx => by
  obtain ⟨o, _, rfl⟩ := List.mem_map.1 (h.perm.mem_iff.1 hx)
  exact h.ok o
def farP (a b : List S32) : Int × Int × Int := if wrongP a = 0 then (if wrongP b = 0 then farVal (totOf a) (totOf b) (pairsL a b) else (0, 0, wrongP b)) else (0, 0, wrongP a)
def wrongs2 (a b : List S32) : Int := if wrongP a = 0 then wrongP b else wrongP a
theorem wrongsF (a b : List S32) (ha : Bd a) (hb : Bd b) : dist_wrongs.F [a, b] = some (wrongs2 a b) := by
  unfold wrongs2
  rw [dist_wrongs.F_eq]
  have e0 : rd_L3 [a, b] 0 = a := rfl
  have e1 : rd_L3 [a, b] 1 = b := rfl
  have l2 : (([a, b].length : Nat) : Int) = 2 := rfl
  have x1 : wrap64 ((0 : Int) + 1) = 1 := by decide +kernel
  have x2 : wrap64 ((1 : Int) + 1) = 2 := by decide +kernel
  rw [l2, dist_wrongs.L0_eq, l2, if_pos (by decide), if_pos (by decide), if_pos (by decide), e0, wrongF a ha, Option.bind_some, x1]
  by_cases c : wrongP a = 0
  · rw [if_pos c, if_pos c, dist_wrongs.L0_eq, l2, if_pos (by decide), if_pos (by decide), if_pos (by decide), e1, wrongF b hb, Option.bind_some, x2]
    by_cases c2 : wrongP b = 0
    · rw [if_pos c2, dist_wrongs.L0_eq, if_neg (by decide), c2]
    · rw [if_neg c2]
  · rw [if_neg c, if_neg c]
theorem dSizeB {a : List S32} (h : Bd a) : dSize a = true := by
  have h1 := h.len
  unfold dSize
  rw [Bool.and_eq_true, decide_eq_true_eq, List.all_eq_true]
  exact ⟨by omega, fun p hp => by have := h.out p hp; exact decide_eq_true (by omega)⟩
theorem tIn_of {t : Int} (h : 1 ≤ t) (h2 : t ≤ 1073741824) : tIn t = true := by unfold tIn; simp [h, h2]
theorem xIn_of {x : Int × Int} (h : pOk x) : xIn x = true := by obtain ⟨h1, h2, h3, h4⟩ := h; unfold xIn; simp [h1, h2, h3, h4]
theorem farF (a b : List S32) (ha : Bd a) (hb : Bd b) : dist_Far.F a b = some (farP a b) := by
  rw [dist_Far.F_eq, wrongsF a b ha hb, Option.bind_some]
  unfold wrongs2 farP
  by_cases c : wrongP a = 0
  · rw [if_pos c, if_pos c]
    by_cases c2 : wrongP b = 0
    · have h : Two a b := ⟨⟨ha, c⟩, ⟨hb, c2⟩⟩
      have h1 := h.a.right
      have h2 := h.b.right
      have := h1.pos; have := h1.few; have := h2.pos; have := h2.few
      rw [if_pos c2, if_pos c2, h.a.tD, Option.bind_some, h.b.tD, Option.bind_some]
      rw [if_pos (by
        unfold dGuard
        rw [dSizeB ha, dSizeB hb, tIn_of (by omega) (by omega), tIn_of (by omega) (by omega)]
        simpa using fun x y hx => xIn_of (h.pok (x, y) hx))]
    · rw [if_neg c2, if_neg c2]
  · rw [if_neg c, if_neg c, if_neg c]
def apT (ta tb : Int) (x : Int × Int) : Int := mx 0 (x.1 * tb - x.2 * ta)
theorem apT_bd {ta tb : Int} (h1 : 0 ≤ ta) (h2 : 0 ≤ tb) {x : Int × Int} (h : pOk x) : 0 ≤ apT ta tb x ∧ apT ta tb x ≤ x.1 * tb := by
  have h3 := Int.mul_nonneg h.1 h2
  have h4 := Int.mul_nonneg h.2.2.1 h1
  unfold apT mx
  split <;> omega
theorem prod_bd {x t : Int} (h0 : 0 ≤ x) (h1 : x ≤ 1073741824) (t0 : 0 ≤ t) (t1 : t ≤ 1073741824) : 0 ≤ x * t ∧ x * t ≤ 1152921504606846976 := by
  have h2 := Int.mul_nonneg h0 t0
  have h3 := Int.mul_le_mul h1 t1 t0 (by omega : (0 : Int) ≤ 1073741824)
  omega
theorem apN_go {ta tb : Int} (h1 : 0 ≤ ta) (h1' : ta ≤ 1073741824) (h2 : 0 ≤ tb) (h2' : tb ≤ 1073741824) : ∀ (L : List (Int × Int)) (n : Int), (∀ x ∈ L, pOk x) → 0 ≤ n → n + isum (L.map (fun x => x.1 * tb)) ≤ 1152921504606846976 →
    L.foldl (apStep ta tb) n = n + isum (L.map (apT ta tb)) ∧ 0 ≤ isum (L.map (apT ta tb)) ∧ isum (L.map (apT ta tb)) ≤ isum (L.map (fun x => x.1 * tb))
  | [], n, _, _, _ => ⟨by simp [isum], by simp [isum], by simp [isum]⟩
  | x :: L, n, h, hn, hb => by
    have hx := h x (by simp)
    have ht := apT_bd h1 h2 hx
    have p1 := prod_bd hx.1 hx.2.1 h2 h2'
    have p2 := prod_bd hx.2.2.1 hx.2.2.2 h1 h1'
    rw [List.map_cons, isum] at hb
    have hs : ∀ (M : List (Int × Int)), (∀ x ∈ M, pOk x) → 0 ≤ isum (M.map (fun x => x.1 * tb)) := by
      intro M
      induction M with
      | nil => intro _; simp [isum]
      | cons y M ih =>
        intro hM
        rw [List.map_cons, isum]
        have := Int.mul_nonneg (hM y (by simp)).1 h2
        have := ih (fun z hz => hM z (by simp [hz]))
        omega
    have hs' := hs L (fun z hz => h z (by simp [hz]))
    have e : apStep ta tb n x = n + apT ta tb x := by
      unfold apStep apT at *
      generalize x.1 * tb = u at *
      generalize x.2 * ta = v at *
      rw [wrap64_of (x := u) (by omega) (by omega), wrap64_of (x := v) (by omega) (by omega), wrap64_of (x := u - v) (by omega) (by omega), wrap64_of (by omega) (by omega)]
    obtain ⟨i1, i2, i3⟩ := apN_go h1 h1' h2 h2' L (n + apT ta tb x) (fun z hz => h z (by simp [hz])) (by omega) (by omega)
    rw [List.foldl_cons, e, i1, List.map_cons, List.map_cons, isum, isum]
    exact ⟨by omega, by omega, by omega⟩
theorem isum_mul (t : Int) : ∀ (l : List Int), isum (l.map (fun x => x * t)) = isum l * t
  | [] => by simp [isum]
  | a :: l => by rw [List.map_cons, isum, isum, isum_mul t l, Int.add_mul]
theorem pairs_sum : ∀ (n : Nat) (a b : List S32), a.length + b.length ≤ n → isum ((pairsL a b).map (·.1)) = totOf a
  | n, [], [], _ => by rw [pairs_nil]; rfl
  | 0, _ :: _, _, h => by simp at h
  | 0, [], _ :: _, h => by simp at h
  | n + 1, [], q :: b, h => by
    rw [pairs_r, List.map_cons, isum, pairs_sum n [] b (by simp at h ⊢; omega)]
    exact Int.zero_add _
  | n + 1, p :: a, [], h => by
    rw [pairs_l, List.map_cons, isum, pairs_sum n a [] (by simp at h ⊢; omega), totOf_cons]
  | n + 1, p :: a, q :: b, h => by
    by_cases h1 : cmpL p.f0 q.f0 < 0
    · rw [pairs_lt _ _ h1, List.map_cons, isum, pairs_sum n a (q :: b) (by simp at h ⊢; omega), totOf_cons]
    · by_cases h2 : cmpL p.f0 q.f0 > 0
      · rw [pairs_gt _ _ h2, List.map_cons, isum, pairs_sum n (p :: a) b (by simp at h ⊢; omega)]
        exact Int.zero_add _
      · rw [pairs_eq _ _ (by omega), List.map_cons, isum, pairs_sum n a b (by simp at h ⊢; omega), totOf_cons]
theorem pairs_prod (a b : List S32) (tb : Int) : isum ((pairsL a b).map (fun x => x.1 * tb)) = totOf a * tb := by
  have h := isum_mul tb ((pairsL a b).map (·.1))
  rw [List.map_map, pairs_sum _ a b (Nat.le_refl _)] at h
  exact h
def apSum (a b : List S32) : Int := isum ((pairsL a b).map (apT (totOf a) (totOf b)))
theorem Two.sum {a b : List S32} (h : Two a b) : apN (totOf a) (totOf b) (pairsL a b) = apSum a b ∧ 0 ≤ apSum a b ∧ apSum a b ≤ totOf a * totOf b ∧ 1 ≤ totOf a * totOf b ∧ totOf a * totOf b ≤ 1152921504606846976 := by
  have h1 := h.a.right
  have h2 := h.b.right
  have := h1.pos; have := h1.few; have := h2.pos; have := h2.few
  have hp := prod_bd (x := totOf a) (t := totOf b) (by omega) (by omega) (by omega) (by omega)
  have hq : 1 ≤ totOf a * totOf b := Int.mul_pos (by omega) (by omega)
  have hg := apN_go (ta := totOf a) (tb := totOf b) (by omega) (by omega) (by omega) (by omega) (pairsL a b) 0 h.pok (Int.le_refl 0) (by rw [pairs_prod]; omega)
  rw [pairs_prod] at hg
  refine ⟨?_, hg.2.1, hg.2.2, hq, hp.2⟩
  have := hg.1
  rw [Int.zero_add] at this
  exact this
def apEnd (n all : Int) : Int × Int × Int := if all / (Int.gcd n all : Nat) > 1073741824 then (0, 0, 4) else (n / (Int.gcd n all : Nat), all / (Int.gcd n all : Nat), 0)
def apartP (a b : List S32) : Int × Int × Int := if wrongP a = 0 then (if wrongP b = 0 then apEnd (apSum a b) (totOf a * totOf b) else (0, 0, wrongP b)) else (0, 0, wrongP a)
theorem dgcdF {a b : Int} (ha : 0 ≤ a) (hb : 0 ≤ b) : dist_gcd.F a b = some ((Int.gcd b a : Nat) : Int) := by
  obtain ⟨x, rfl⟩ := Int.eq_ofNat_of_zero_le ha
  obtain ⟨y, rfl⟩ := Int.eq_ofNat_of_zero_le hb
  exact ((dist_gcd.F_is _ _).iff _).2 (gcd_is x y)
theorem apartF (a b : List S32) (ha : Bd a) (hb : Bd b) : dist_Apart.F a b = some (apartP a b) := by
  rw [dist_Apart.F_eq, wrongsF a b ha hb, Option.bind_some]
  unfold wrongs2 apartP
  by_cases c : wrongP a = 0
  · rw [if_pos c, if_pos c]
    by_cases c2 : wrongP b = 0
    · have h : Two a b := ⟨⟨ha, c⟩, ⟨hb, c2⟩⟩
      obtain ⟨s1, s2, s3, s4, s5⟩ := h.sum
      rw [if_pos c2, if_pos c2, h.a.tD, Option.bind_some, h.b.tD, Option.bind_some, if_pos (dSizeB ha), if_pos (dSizeB hb), s1]
      generalize apSum a b = n at *
      generalize totOf a * totOf b = all at *
      have hg := gcd_pos (u := n) (d := all) s4
      rw [wrap64_of (x := all) (by omega) (by omega), dgcdF (by omega) s2, Option.bind_some, if_neg (by omega), quot s2 (by omega), quot (by omega) (by omega)]
      congr 1
      unfold apOut apEnd
      have hle : n / (Int.gcd n all : Nat) ≤ all / (Int.gcd n all : Nat) := Int.ediv_le_ediv (by omega) s3
      by_cases c3 : all / (Int.gcd n all : Nat) > 1073741824
      · rw [if_pos (.inr c3), if_pos c3]
      · rw [if_neg (by omega), if_neg c3]
    · rw [if_neg c2, if_neg c2]
  · rw [if_neg c, if_neg c, if_neg c]
end Go.Proofs.Ytkemhfhmlcljjaa.DistPure
end
section
namespace Go.Proofs.Ytkemhfhmlcljjaa.DistPure
set_option linter.unusedVariables false
set_option linter.unusedSimpArgs false
open Go.RowKit Go.Proofs.Ytkemhfhmlcljjaa.PE Go.Proofs.YtkemhfhmlcljjaaW.PrintWords Go.Proofs.YtkemhfhmlcljjaaW.PrintLast Go.Proofs.YtkemhfhmlcljjaaW.PrintMore Go.Proofs.YtkemhfhmlcljjaaW.EvKit
theorem pairs_swap : ∀ (n : Nat) (a b : List S32), a.length + b.length ≤ n → pairsL b a = (pairsL a b).map Prod.swap
  | n, [], [], _ => by rw [pairs_nil]; rfl
  | 0, _ :: _, _, h => by simp at h
  | 0, [], _ :: _, h => by simp at h
  | n + 1, [], q :: b, h => by
    rw [pairs_r, pairs_l, pairs_swap n [] b (by simp at h ⊢; omega)]; rfl
  | n + 1, p :: a, [], h => by
    rw [pairs_r, pairs_l, pairs_swap n a [] (by simp at h ⊢; omega)]; rfl
  | n + 1, p :: a, q :: b, h => by
    have hs := cmpL_swap p.f0 q.f0
    by_cases h1 : cmpL p.f0 q.f0 < 0
    · rw [pairs_lt _ _ h1, pairs_gt _ _ (show cmpL q.f0 p.f0 > 0 by omega), pairs_swap n a (q :: b) (by simp at h ⊢; omega)]; rfl
    · by_cases h2 : cmpL p.f0 q.f0 > 0
      · rw [pairs_gt _ _ h2, pairs_lt _ _ (show cmpL q.f0 p.f0 < 0 by omega), pairs_swap n (p :: a) b (by simp at h ⊢; omega)]; rfl
      · rw [pairs_eq _ _ (show cmpL p.f0 q.f0 = 0 by omega), pairs_eq _ _ (show cmpL q.f0 p.f0 = 0 by omega), pairs_swap n a b (by simp at h ⊢; omega)]; rfl
theorem pairs_swap' (a b : List S32) : pairsL b a = (pairsL a b).map Prod.swap := pairs_swap _ a b (Nat.le_refl _)
theorem fStep_swap (ta tb : Nat) (s : Nat × Nat) (x : Int × Int) : fStep tb ta s x.swap = fStep ta tb s x := by
  have e1 : fHi tb ta x.swap = fHi ta tb x := by unfold fHi; exact Nat.max_comm _ _
  have e2 : fLo tb ta x.swap = fLo ta tb x := by unfold fLo; exact Nat.min_comm _ _
  unfold fStep fB fU fV fG
  rw [e1, e2]
theorem fFold_swap (ta tb : Nat) (L : List (Int × Int)) : fFold tb ta (L.map Prod.swap) = fFold ta tb L := by
  unfold fFold
  rw [List.foldl_map]
  congr 1
  funext s x
  exact fStep_swap ta tb s x
theorem farVal_swap (ta tb : Int) (L : List (Int × Int)) : farVal tb ta (L.map Prod.swap) = farVal ta tb L := by
  unfold farVal
  rw [fFold_swap]
  have e : (L.map Prod.swap).all xNo = L.all xNo := by
    rw [List.all_map]
    congr 1
    funext x
    show xNo x.swap = xNo x
    unfold xNo
    exact Bool.and_comm _ _
  rw [e]
theorem far_sym (a b : List S32) : (farP a b).1 = (farP b a).1 ∧ (farP a b).2.1 = (farP b a).2.1 ∧ ((farP a b).2.2 = 0 ↔ (farP b a).2.2 = 0) := by
  unfold farP
  rw [pairs_swap' a b, farVal_swap]
  by_cases c : wrongP a = 0
  · by_cases c2 : wrongP b = 0
    · simp [c, c2]
    · simp [c, c2]
  · by_cases c2 : wrongP b = 0
    · simp [c, c2]
    · simp [c, c2]
structure FarOK (a b : List S32) (ta tb : Nat) (s : Nat × Nat) : Prop where
  two : Two a b
  ea : totOf a = (ta : Int)
  eb : totOf b = (tb : Int)
  a1 : 1 ≤ ta
  b1 : 1 ≤ tb
  a2 : ta ≤ 1073741824
  b2 : tb ≤ 1073741824
  no : ∀ x ∈ pairsL a b, pNo x
  eq : fFold ta tb (pairsL a b) = s
  mx : Mx s ((pairsL a b).map (hl ta tb))
  co : Nat.gcd s.1 s.2 = 1
theorem farOut_ok {s : Nat × Nat} (h : (farOut s).2.2 = 0) : farOut s = ((s.1 : Int), (s.2 : Int), 0) ∧ s.1 ≤ 1073741824 ∧ s.2 ≤ 1073741824 := by
  unfold farOut at *
  by_cases c : s.1 > 1073741824 ∨ s.2 > 1073741824
  · rw [if_pos c] at h; cases h
  · rw [if_neg c]; exact ⟨rfl, by omega, by omega⟩
theorem far_mk {a b : List S32} (ha : Bd a) (hb : Bd b) (c : wrongP a = 0) (c2 : wrongP b = 0) (hn : ∀ x ∈ pairsL a b, pNo x) : ∃ ta tb s, FarOK a b ta tb s ∧ farP a b = farOut s := by
  have h : Two a b := ⟨⟨ha, c⟩, ⟨hb, c2⟩⟩
  obtain ⟨ta, tb, ea, eb, a1, a2, b1, b2⟩ := h.t
  obtain ⟨m, co⟩ := fFold_mx a1 a2 b1 b2 (L := pairsL a b) (fun x hx => ⟨h.pok x hx, hn x hx⟩)
  refine ⟨ta, tb, _, ⟨h, ea, eb, a1, b1, a2, b2, hn, rfl, m, co⟩, ?_⟩
  unfold farP
  rw [if_pos c, if_pos c2, farVal_yes hn, ea, eb]
  rfl
theorem far_yes {a b : List S32} (ha : Bd a) (hb : Bd b) (h : (farP a b).2.2 = 0) : ∃ ta tb s, FarOK a b ta tb s ∧ farP a b = ((s.1 : Int), (s.2 : Int), 0) ∧ s.1 ≤ 1073741824 ∧ s.2 ≤ 1073741824 := by
  by_cases c : wrongP a = 0
  · by_cases c2 : wrongP b = 0
    · by_cases hn : ∀ x ∈ pairsL a b, pNo x
      · obtain ⟨ta, tb, s, h1, h2⟩ := far_mk ha hb c c2 hn
        rw [h2] at h ⊢
        obtain ⟨h3, h4, h5⟩ := farOut_ok h
        exact ⟨ta, tb, s, h1, h3, h4, h5⟩
      · have hn' : ∃ x ∈ pairsL a b, ¬ pNo x := by simpa using hn
        unfold farP at h
        rw [if_pos c, if_pos c2, farVal_no hn'] at h
        cases h
    · unfold farP at h
      rw [if_pos c, if_neg c2] at h
      exact absurd h c2
  · unfold farP at h
    rw [if_neg c] at h
    exact absurd h c
theorem in_outs {a b : List S32} (o : List Int) (h : 0 < wOf a o ∨ 0 < wOf b o) : o ∈ outsL a b := by
  unfold outsL
  by_cases c : 0 < wOf a o
  · obtain ⟨q, hq, e⟩ := wOf_mem c
    exact List.mem_append.2 (.inl (List.mem_map.2 ⟨q, hq, e⟩))
  · have hb := h.resolve_left c
    obtain ⟨q, hq, e⟩ := wOf_mem hb
    by_cases c2 : wOf a o = 0
    · exact List.mem_append.2 (.inr (List.mem_map.2 ⟨q, List.mem_filter.2 ⟨hq, by rw [e]; exact decide_eq_true c2⟩, e⟩))
    · obtain ⟨p, hp, e2⟩ : ∃ p ∈ a, p.f0 = o := by
        refine Classical.byContradiction (fun hx => c2 (wOf_none a o (fun q hq e => hx ⟨q, hq, e⟩)))
      exact List.mem_append.2 (.inl (List.mem_map.2 ⟨p, hp, e2⟩))
theorem FarOK.at {a b : List S32} {ta tb : Nat} {s : Nat × Nat} (h : FarOK a b ta tb s) (o : List Int) (ho : 0 < wOf a o ∨ 0 < wOf b o) :
    0 < wOf a o ∧ 0 < wOf b o ∧ le2 (uv ta tb (pw a b o)) s ∧ le2 (uv ta tb (pw a b o)).swap s ∧ pos2 (uv ta tb (pw a b o)) := by
  have hm : pw a b o ∈ pairsL a b := h.two.perm.mem_iff.2 (List.mem_map.2 ⟨o, in_outs o ho, rfl⟩)
  have hn := h.no _ hm
  have hk := h.two.ok o
  have hu := uv_bd h.a1 h.a2 h.b1 h.b2 hk hn
  have hp : pos2 (uv ta tb (pw a b o)) := ⟨hu.1, hu.2.2.1⟩
  have hh : 1 ≤ (hl ta tb (pw a b o)).2 := by
    rcases hl_uv ta tb (pw a b o) with e | e
    · rw [e]; exact hp.2
    · rw [e]; exact hp.1
  have hub := h.mx.ub _ (List.mem_map.2 ⟨_, hm, rfl⟩)
  have h1 := h.two.a.wbd o
  have h2 := h.two.b.wbd o
  have n1 : ¬ wOf a o = 0 := hn.1
  have n2 : ¬ wOf b o = 0 := hn.2
  exact ⟨by omega, by omega, le2_trans hh (uv_hl ta tb _).1 hub, le2_trans hh (uv_hl ta tb _).2 hub, hp⟩
theorem FarOK.some {a b : List S32} {ta tb : Nat} {s : Nat × Nat} (h : FarOK a b ta tb s) : le2 s (1, 1) ∨ ∃ o, 0 < wOf a o ∧ 0 < wOf b o ∧ (le2 s (uv ta tb (pw a b o)) ∨ le2 s (uv ta tb (pw a b o)).swap) := by
  rcases h.mx.got with c | ⟨f, hf, c⟩
  · exact .inl c
  · obtain ⟨x, hx, rfl⟩ := List.mem_map.1 hf
    obtain ⟨o, ho, rfl⟩ := List.mem_map.1 (h.two.perm.mem_iff.1 hx)
    have hn := h.no _ hx
    have h1 := h.two.a.wbd o
    have h2 := h.two.b.wbd o
    have n1 : ¬ wOf a o = 0 := hn.1
    have n2 : ¬ wOf b o = 0 := hn.2
    refine .inr ⟨o, by omega, by omega, ?_⟩
    rcases hl_uv ta tb (pw a b o) with e | e
    · rw [e] at c; exact .inl c
    · rw [e] at c; exact .inr c
theorem dvd_all {d : List S32} {n : Nat} (hs : Strict d) (h : ∀ o, n ∣ (wOf d o).toNat) : n ∣ gOf d := by
  refine gOf_max (fun p hp => ?_)
  have e : wOf d p.f0 = p.f1 := by
    obtain ⟨x, y, rfl⟩ := List.append_of_mem hp
    have hs' := List.pairwise_append.1 hs
    have h1 : wOf x p.f0 = 0 := wOf_none _ _ (fun q hq => lt_ne (hs'.2.2 q hq p (by simp)))
    have h2 := wOf_hit hs'.2.1
    unfold wOf at *
    rw [List.map_append, isum_app]
    omega
  have := h p.f0
  rw [e] at this
  exact this
theorem same_of {a b : List S32} (h : Two a b) {ta tb : Nat} (ea : totOf a = (ta : Int)) (eb : totOf b = (tb : Int)) (a1 : 1 ≤ ta) (b1 : 1 ≤ tb) (hw : ∀ o, (wOf a o).toNat * tb = (wOf b o).toNat * ta) : a = b := by
  obtain ⟨d, hd⟩ : ∃ d, Nat.gcd ta tb = d := ⟨_, rfl⟩
  have g0 : 0 < d := by rw [← hd]; exact Nat.gcd_pos_of_pos_left _ a1
  obtain ⟨p, hp⟩ : d ∣ ta := by rw [← hd]; exact Nat.gcd_dvd_left ta tb
  obtain ⟨q, hq⟩ : d ∣ tb := by rw [← hd]; exact Nat.gcd_dvd_right ta tb
  have hc : Nat.gcd p q = 1 := by
    have h1 : d * Nat.gcd p q = d * 1 := by
      rw [← Nat.gcd_mul_left, ← hp, ← hq, hd, Nat.mul_one]
    exact Nat.eq_of_mul_eq_mul_left g0 h1
  have hw' : ∀ o, (wOf a o).toNat * q = (wOf b o).toNat * p := fun o => by
    have h1 := hw o
    rw [hp, hq] at h1
    have h2 : d * ((wOf a o).toNat * q) = d * ((wOf b o).toNat * p) := by
      rw [Nat.mul_left_comm d, Nat.mul_left_comm d]; exact h1
    exact Nat.eq_of_mul_eq_mul_left g0 h2
  have p1 : p = 1 := by
    have hd : p ∣ gOf a := dvd_all h.a.right.st (fun o => Nat.Coprime.dvd_of_dvd_mul_right hc ⟨(wOf b o).toNat, by rw [hw' o, Nat.mul_comm]⟩)
    rw [(right_more h.a.wr).2] at hd
    exact Nat.dvd_one.1 hd
  have q1 : q = 1 := by
    have hd : q ∣ gOf b := dvd_all h.b.right.st (fun o => Nat.Coprime.dvd_of_dvd_mul_right (by rw [Nat.Coprime, Nat.gcd_comm]; exact hc) ⟨(wOf a o).toNat, by rw [← hw' o, Nat.mul_comm]⟩)
    rw [(right_more h.b.wr).2] at hd
    exact Nat.dvd_one.1 hd
  refine uniq_of a b h.a.right.st h.b.right.st h.a.pw h.b.pw (fun o => ?_)
  have h1 := hw' o
  rw [p1, q1, Nat.mul_one, Nat.mul_one] at h1
  have h2 := (h.a.wbd o).1
  have h3 := (h.b.wbd o).1
  omega
theorem far_one {a b : List S32} {ta tb : Nat} {s : Nat × Nat} (h : FarOK a b ta tb s) : (s.1 = 1 ∧ s.2 = 1) ↔ a = b := by
  constructor
  · rintro ⟨e1, e2⟩
    refine same_of h.two h.ea h.eb h.a1 h.b1 (fun o => ?_)
    by_cases c : 0 < wOf a o ∨ 0 < wOf b o
    · obtain ⟨_, _, h1, h2, _⟩ := h.at o c
      unfold le2 uv pw at h1
      unfold le2 Prod.swap uv pw at h2
      dsimp only at h1 h2
      rw [e1, e2] at h1 h2
      omega
    · have h2 := (h.two.a.wbd o).1
      have h3 := (h.two.b.wbd o).1
      have e1 : wOf a o = 0 := by omega
      have e2 : wOf b o = 0 := by omega
      rw [e1, e2]
      simp
  · intro e
    subst e
    have et : ta = tb := by have h1 := h.ea; have h2 := h.eb; omega
    subst et
    have hs : le2 s (1, 1) := by
      rcases h.some with c | ⟨o, _, _, c⟩
      · exact c
      · unfold uv pw Prod.swap at c
        dsimp only at c
        unfold le2 at *
        dsimp only at *
        have hp : 1 ≤ (wOf a o).toNat * ta := by have := (h.at o (.inl (by omega))).2.2.2.2.1; exact this
        generalize (wOf a o).toNat * ta = w at *
        have h1 : s.1 * w ≤ s.2 * w := by rcases c with c | c <;> · rw [Nat.mul_comm s.2]; exact c
        have := Nat.le_of_mul_le_mul_right h1 hp
        omega
    have h1 := h.mx.one
    unfold le2 at hs h1
    dsimp only at hs h1
    have e : s.1 = s.2 := by omega
    have hc := h.co
    rw [e, Nat.gcd_self] at hc
    omega
theorem le2_mul {f g f' g' : Nat × Nat} (h : le2 f g) (h' : le2 f' g') : le2 (f.1 * f'.1, f.2 * f'.2) (g.1 * g'.1, g.2 * g'.2) := by
  unfold le2 at *
  dsimp only
  have := Nat.mul_le_mul h h'
  rw [Nat.mul_mul_mul_comm f.1, Nat.mul_mul_mul_comm g.1]
  exact this
theorem three_key {A B C x y z : Nat} {r q s : Nat × Nat} (h0 : 1 ≤ C * x) (h0' : 1 ≤ B * x * (C * y)) (h1 : le2 (A * y, B * x) r) (h2 : le2 (B * z, C * y) q) (h3 : le2 s (A * z, C * x)) : le2 s (r.1 * q.1, r.2 * q.2) := by
  have h4 := le2_mul h1 h2
  have h5 : le2 (A * z, C * x) (A * y * (B * z), B * x * (C * y)) := by
    unfold le2
    exact Nat.le_of_eq (by dsimp only; ac_rfl)
  exact le2_trans (g := (A * z, C * x)) h0 h3 (le2_trans (g := (A * y * (B * z), B * x * (C * y))) h0' h5 h4)
theorem far_three {a b c : List S32} {ta tb tb' tc ta' tc' : Nat} {r q s : Nat × Nat} (h1 : FarOK a b ta tb r) (h2 : FarOK b c tb' tc q) (h3 : FarOK a c ta' tc' s) : le2 s (r.1 * q.1, r.2 * q.2) := by
  obtain rfl : tb' = tb := by have e1 := h1.eb; have e2 := h2.ea; omega
  obtain rfl : ta' = ta := by have e1 := h1.ea; have e2 := h3.ea; omega
  obtain rfl : tc' = tc := by have e1 := h2.eb; have e2 := h3.eb; omega
  rcases h3.some with e | ⟨o, o1, o2, e⟩
  · have e1 := h1.mx.one
    have e2 := h2.mx.one
    have := le2_mul e1 e2
    exact le2_trans (g := (1, 1)) (Nat.le_refl 1) e this
  · obtain ⟨_, b1, x1, x2, x3⟩ := h1.at o (.inl o1)
    obtain ⟨_, _, y1, y2, y3⟩ := h2.at o (.inl b1)
    have z3 := (h3.at o (.inl o1)).2.2.2.2
    rcases e with e | e
    · exact three_key (A := (wOf a o).toNat) (B := (wOf b o).toNat) (C := (wOf c o).toNat) (x := ta') (y := tb') (z := tc') z3.2 (Nat.mul_pos x3.2 y3.2) x1 y1 e
    · have h := three_key (A := (wOf c o).toNat) (B := (wOf b o).toNat) (C := (wOf a o).toNat) (x := tc') (y := tb') (z := ta') z3.1 (Nat.mul_pos y3.1 x3.1) y2 x2 e
      rw [Nat.mul_comm q.1, Nat.mul_comm q.2] at h
      exact h
theorem far_links {a b c : List S32} {ta tb tb' tc : Nat} {r q : Nat × Nat} (h1 : FarOK a b ta tb r) (h2 : FarOK b c tb' tc q) : ∀ x ∈ pairsL a c, pNo x := fun x hx => by
  have hT : Two a c := ⟨h1.two.a, h2.two.b⟩
  obtain ⟨o, ho, rfl⟩ := List.mem_map.1 (hT.perm.mem_iff.1 hx)
  have hpos : 0 < wOf a o ∨ 0 < wOf c o := by
    rcases outs_mem ho with ⟨p, hp, e⟩ | ⟨p, hp, e⟩
    · have := wOf_ge hT.a.nn hp; have := hT.a.pw p hp; rw [e] at *; exact .inl (by omega)
    · have := wOf_ge hT.b.nn hp; have := hT.b.pw p hp; rw [e] at *; exact .inr (by omega)
  have hb : 0 < wOf b o := by
    rcases hpos with h | h
    · exact (h1.at o (.inl h)).2.1
    · exact (h2.at o (.inr h)).1
  have hA := (h1.at o (.inr hb)).1
  have hC := (h2.at o (.inl hb)).2.1
  exact ⟨fun e => by have e : wOf a o = 0 := e; omega, fun e => by have e : wOf c o = 0 := e; omega⟩
def tT (a b : List S32) (o : List Int) : Int := apT (totOf a) (totOf b) (pw a b o)
theorem tT_is (a b : List S32) (o : List Int) : tT a b o = mx 0 (wOf a o * totOf b - wOf b o * totOf a) := rfl
theorem Two.tpos {a b : List S32} (h : Two a b) : 1 ≤ totOf a ∧ totOf a ≤ 1073741824 ∧ 1 ≤ totOf b ∧ totOf b ≤ 1073741824 := by
  have h1 := h.a.right
  have h2 := h.b.right
  have := h1.pos; have := h1.few; have := h2.pos; have := h2.few
  omega
theorem tT_bd {a b : List S32} (h : Two a b) (o : List Int) : 0 ≤ tT a b o := by
  have := h.tpos
  exact (apT_bd (by omega) (by omega) (h.ok o)).1
theorem tT_zero {a b : List S32} (h : Two a b) {o : List Int} (ho : wOf a o = 0) : tT a b o = 0 := by
  have h1 := h.tpos
  have h2 := h.b.wbd o
  have h3 := Int.mul_nonneg h2.1 (show 0 ≤ totOf a by omega)
  rw [tT_is, ho, Int.zero_mul]
  unfold mx
  rw [if_neg (by omega)]
theorem isum_zeros : ∀ (l : List Int), (∀ x ∈ l, x = 0) → isum l = 0
  | [], _ => rfl
  | x :: l, h => by rw [isum, h x (by simp), isum_zeros l (fun y hy => h y (by simp [hy]))]; rfl
theorem apSum_a {a b : List S32} (h : Two a b) : apSum a b = isum ((a.map (·.f0)).map (tT a b)) := by
  have e : apSum a b = isum (((outsL a b).map (pw a b)).map (apT (totOf a) (totOf b))) := isum_perm (h.perm.map _)
  rw [e, List.map_map]
  unfold outsL
  rw [List.map_append, isum_app]
  have z : isum (((b.filter (fun p => decide (wOf a p.f0 = 0))).map (·.f0)).map (apT (totOf a) (totOf b) ∘ pw a b)) = 0 := by
    refine isum_zeros _ (fun x hx => ?_)
    obtain ⟨o, ho, rfl⟩ := List.mem_map.1 hx
    obtain ⟨p, hp, rfl⟩ := List.mem_map.1 ho
    exact tT_zero h (of_decide_eq_true (List.mem_filter.1 hp).2)
  rw [z, Int.add_zero]
  rfl
theorem isum_le_sub : ∀ (O B : List (List Int)) (G : List Int → Int), (∀ o, 0 ≤ G o) → O.Nodup → (∀ o ∈ O, G o ≠ 0 → o ∈ B) → isum (O.map G) ≤ isum (B.map G)
  | [], B, G, h0, _, _ => by
    rw [List.map_nil]
    refine isum_nonneg _ (fun x hx => ?_)
    obtain ⟨o, _, rfl⟩ := List.mem_map.1 hx
    exact h0 o
  | o :: O, B, G, h0, hn, hm => by
    have hn' := List.nodup_cons.1 hn
    rw [List.map_cons, isum]
    by_cases c : G o = 0
    · have := isum_le_sub O B G h0 hn'.2 (fun x hx => hm x (by simp [hx]))
      omega
    · have ho := hm o (by simp) c
      have hp : B.Perm (o :: B.erase o) := List.perm_cons_erase ho
      have e := isum_perm (hp.map G)
      rw [List.map_cons, isum] at e
      have := isum_le_sub O (B.erase o) G h0 hn'.2 (fun x hx hx0 => by
        have hx2 := hm x (by simp [hx]) hx0
        exact (List.mem_erase_of_ne (fun e => hn'.1 (by rw [← e]; exact hx))).2 hx2)
      omega
theorem strict_nodup {d : List S32} (h : Strict d) : (d.map (·.f0)).Nodup := by
  unfold List.Nodup
  rw [List.pairwise_map]
  exact List.Pairwise.imp (fun h => lt_ne h) h
theorem tri_one {A B C x y z : Int} (hx : 0 ≤ x) (hy : 0 ≤ y) (hz : 0 ≤ z) : mx 0 (A * z - C * x) * y ≤ mx 0 (A * y - B * x) * z + mx 0 (B * z - C * y) * x := by
  have e : (A * z - C * x) * y = (A * y - B * x) * z + (B * z - C * y) * x := by grind
  have m1 : ∀ d : Int, 0 ≤ mx 0 d ∧ d ≤ mx 0 d := fun d => by unfold mx; split <;> omega
  have u1 := Int.mul_le_mul_of_nonneg_right (m1 (A * y - B * x)).2 hz
  have u2 := Int.mul_le_mul_of_nonneg_right (m1 (B * z - C * y)).2 hx
  have v1 := Int.mul_nonneg (m1 (A * y - B * x)).1 hz
  have v2 := Int.mul_nonneg (m1 (B * z - C * y)).1 hx
  by_cases c : 0 < A * z - C * x
  · have em : mx 0 (A * z - C * x) = A * z - C * x := by unfold mx; rw [if_pos c]
    rw [em, e]
    omega
  · have em : mx 0 (A * z - C * x) = 0 := by unfold mx; rw [if_neg c]
    rw [em, Int.zero_mul]
    omega
theorem isum_add_mul : ∀ (O : List (List Int)) (F G H : List Int → Int) (x y z : Int), (∀ o, F o * y ≤ G o * z + H o * x) → isum (O.map F) * y ≤ isum (O.map G) * z + isum (O.map H) * x
  | [], F, G, H, x, y, z, _ => by simp [isum]
  | o :: O, F, G, H, x, y, z, h => by
    have h1 := h o
    have h2 := isum_add_mul O F G H x y z h
    rw [List.map_cons, List.map_cons, List.map_cons, isum, isum, isum, Int.add_mul, Int.add_mul, Int.add_mul]
    omega
theorem apart_three {a b c : List S32} (h1 : Two a b) (h2 : Two b c) (h3 : Two a c) : apSum a c * totOf b ≤ apSum a b * totOf c + apSum b c * totOf a := by
  have t1 := h1.tpos
  have t2 := h2.tpos
  rw [apSum_a h3, apSum_a h1, apSum_a h2]
  have s1 := isum_add_mul (a.map (·.f0)) (tT a c) (tT a b) (tT b c) (totOf a) (totOf b) (totOf c) (fun o => by
    rw [tT_is, tT_is, tT_is]
    exact tri_one (by omega) (by omega) (by omega))
  have s2 := isum_le_sub (a.map (·.f0)) (b.map (·.f0)) (tT b c) (tT_bd h2) (strict_nodup h1.a.right.st) (fun o _ ho => by
    have hb : ¬ wOf b o = 0 := fun e => ho (tT_zero h2 e)
    obtain ⟨q, hq, e⟩ := wOf_mem (d := b) (o := o) (by have := h1.b.wbd o; omega)
    exact List.mem_map.2 ⟨q, hq, e⟩)
  have s3 := Int.mul_le_mul_of_nonneg_right s2 (show 0 ≤ totOf a by omega)
  omega
theorem isum_sub : ∀ (L : List (Int × Int)) (F G : Int × Int → Int), isum (L.map (fun x => F x - G x)) = isum (L.map F) - isum (L.map G)
  | [], F, G => rfl
  | x :: L, F, G => by rw [List.map_cons, List.map_cons, List.map_cons, isum, isum, isum, isum_sub L F G]; omega
theorem apart_sym {a b : List S32} : apSum a b = apSum b a := by
  have e1 := pairs_prod a b (totOf b)
  have e2 := pairs_prod b a (totOf a)
  unfold apSum
  rw [pairs_swap' a b] at e2 ⊢
  rw [List.map_map] at e2 ⊢
  have hd := isum_sub (pairsL a b) (apT (totOf a) (totOf b)) (apT (totOf b) (totOf a) ∘ Prod.swap)
  have hk : (fun x => apT (totOf a) (totOf b) x - (apT (totOf b) (totOf a) ∘ Prod.swap) x) = (fun x : Int × Int => (fun x : Int × Int => x.1 * totOf b) x - ((fun x : Int × Int => x.1 * totOf a) ∘ Prod.swap) x) := by
    funext x
    show mx 0 (x.1 * totOf b - x.2 * totOf a) - mx 0 (x.2 * totOf a - x.1 * totOf b) = x.1 * totOf b - x.2 * totOf a
    generalize x.1 * totOf b = u
    generalize x.2 * totOf a = v
    unfold mx
    split <;> split <;> omega
  rw [hk, isum_sub, e1, e2, Int.mul_comm (totOf b)] at hd
  omega
theorem apart_swap (a b : List S32) : (apartP a b).1 = (apartP b a).1 ∧ (apartP a b).2.1 = (apartP b a).2.1 ∧ ((apartP a b).2.2 = 0 ↔ (apartP b a).2.2 = 0) := by
  unfold apartP
  rw [apart_sym, Int.mul_comm (totOf b) (totOf a)]
  by_cases c : wrongP a = 0
  · by_cases c2 : wrongP b = 0
    · simp [c, c2]
    · simp [c, c2]
  · by_cases c2 : wrongP b = 0
    · simp [c, c2]
    · simp [c, c2]
theorem isum_zero : ∀ (l : List Int), (∀ x ∈ l, 0 ≤ x) → isum l = 0 → ∀ x ∈ l, x = 0
  | [], _, _, x, hx => by cases hx
  | y :: l, h, e, x, hx => by
    rw [isum] at e
    have h1 := h y (by simp)
    have h2 := isum_nonneg l (fun z hz => h z (by simp [hz]))
    rcases List.mem_cons.1 hx with c | c
    · omega
    · exact isum_zero l (fun z hz => h z (by simp [hz])) (by omega) x c
theorem apart_same {a b : List S32} (h : Two a b) : apSum a b = 0 ↔ a = b := by
  constructor
  · intro e
    have key : ∀ {a b : List S32}, Two a b → apSum a b = 0 → ∀ o, wOf a o * totOf b ≤ wOf b o * totOf a := by
      intro a b h e o
      have ht := h.tpos
      have hb := Int.mul_nonneg (h.b.wbd o).1 (show 0 ≤ totOf a by omega)
      by_cases c : wOf a o = 0
      · rw [c, Int.zero_mul]; exact hb
      · obtain ⟨q, hq, eq⟩ := wOf_mem (d := a) (o := o) (by have := h.a.wbd o; omega)
        rw [apSum_a h] at e
        have := isum_zero _ (fun x hx => by obtain ⟨o, _, rfl⟩ := List.mem_map.1 hx; exact tT_bd h o) e (tT a b o) (List.mem_map.2 ⟨o, List.mem_map.2 ⟨q, hq, eq⟩, rfl⟩)
        rw [tT_is] at this
        unfold mx at this
        split at this <;> omega
    obtain ⟨ta, tb, ea, eb, a1, a2, b1, b2⟩ := h.t
    refine same_of h ea eb a1 b1 (fun o => ?_)
    have h1 := key h e o
    have h2 := key (⟨h.b, h.a⟩ : Two b a) (by rw [← apart_sym]; exact e) o
    have e3 : wOf a o * totOf b = wOf b o * totOf a := Int.le_antisymm h1 h2
    rw [ea, eb] at e3
    obtain ⟨x, hx⟩ := Int.eq_ofNat_of_zero_le (h.a.wbd o).1
    obtain ⟨y, hy⟩ := Int.eq_ofNat_of_zero_le (h.b.wbd o).1
    rw [hx, hy] at e3 ⊢
    rw [Int.toNat_natCast, Int.toNat_natCast]
    exact_mod_cast e3
  · intro e
    subst e
    rw [apSum_a h]
    refine isum_zeros _ (fun x hx => ?_)
    obtain ⟨o, _, rfl⟩ := List.mem_map.1 hx
    rw [tT_is, Int.sub_self]
    rfl
theorem apart_yes {a b : List S32} (ha : Bd a) (hb : Bd b) (h : (apartP a b).2.2 = 0) : ∃ _ : Two a b, ∃ x y : Int, apartP a b = (x, y, 0) ∧ 0 ≤ x ∧ x ≤ y ∧ 1 ≤ y ∧ y ≤ 1073741824 ∧ Int.gcd x y = 1 ∧ x * (totOf a * totOf b) = apSum a b * y ∧ (x = 0 ↔ apSum a b = 0) := by
  by_cases c : wrongP a = 0
  · by_cases c2 : wrongP b = 0
    · have hT : Two a b := ⟨⟨ha, c⟩, ⟨hb, c2⟩⟩
      obtain ⟨s1, s2, s3, s4, s5⟩ := hT.sum
      refine ⟨hT, ?_⟩
      unfold apartP at *
      rw [if_pos c, if_pos c2] at *
      generalize apSum a b = n at *
      generalize totOf a * totOf b = all at *
      have hg := gcd_pos (u := n) (d := all) s4
      unfold apEnd at *
      by_cases c3 : all / (Int.gcd n all : Nat) > 1073741824
      · rw [if_pos c3] at h; cases h
      · rw [if_neg c3]
        have d1 : ((Int.gcd n all : Nat) : Int) ∣ n := Int.gcd_dvd_left ..
        have d2 : ((Int.gcd n all : Nat) : Int) ∣ all := Int.gcd_dvd_right ..
        have m1 := Int.ediv_mul_cancel d1
        have m2 := Int.ediv_mul_cancel d2
        have hc : Int.gcd (n / (Int.gcd n all : Nat)) (all / (Int.gcd n all : Nat)) = 1 := by
          rw [Int.gcd_ediv_gcd_ediv_gcd]
          omega
        have hle : n / (Int.gcd n all : Nat) ≤ all / (Int.gcd n all : Nat) := Int.ediv_le_ediv (by omega) s3
        have h0 : 0 ≤ n / (Int.gcd n all : Nat) := Int.ediv_nonneg s2 (by omega)
        refine ⟨_, _, rfl, h0, hle, ?_, by omega, hc, ?_, ?_⟩
        · generalize all / (Int.gcd n all : Nat) = y at *
          rcases Int.lt_or_le 0 y with c | c
          · exact c
          · have := Int.mul_nonpos_of_nonpos_of_nonneg c (show (0 : Int) ≤ (Int.gcd n all : Nat) by omega)
            omega
        · generalize hx : n / (Int.gcd n all : Nat) = x at *
          generalize hy : all / (Int.gcd n all : Nat) = y at *
          generalize ((Int.gcd n all : Nat) : Int) = g at *
          rw [← m1, ← m2]
          grind
        · constructor
          · intro e
            rw [e, Int.zero_mul] at m1
            exact m1.symm
          · intro e
            rw [e]; exact Int.zero_ediv _
    · unfold apartP at h
      rw [if_pos c, if_neg c2] at h
      exact absurd h c2
  · unfold apartP at h
    rw [if_neg c] at h
    exact absurd h c
end Go.Proofs.Ytkemhfhmlcljjaa.DistPure
end
section
namespace Go.Proofs.Ytkemhfhmlcljjaa.DistPure
set_option linter.unusedVariables false
set_option linter.unusedSimpArgs false
open Go.RowKit Go.Proofs.Ytkemhfhmlcljjaa.PE Go.Proofs.YtkemhfhmlcljjaaW.PrintWords Go.Proofs.YtkemhfhmlcljjaaW.PrintLast Go.Proofs.YtkemhfhmlcljjaaW.PrintMore Go.Proofs.YtkemhfhmlcljjaaW.EvKit
theorem r1make_ev {u d : Int} (hu : -9223372036854775808 ≤ u ∧ u ≤ 9223372036854775807) (hd : -9223372036854775808 ≤ d ∧ d ≤ 9223372036854775807) : Ev (fun k => hushref1_Make.f k u d) (makeS u d) := by
  have hj : ∀ b, b = decide (u < 0 ∨ d < 1) → Ev (fun k => hushref1_Make.j0 k u d b) (makeS u d) := fun b hb =>
    Ev.step (fun k => hushref1_Make.j0.eq_2 _ _ _ k) (make_j (fun h0 h1 => div_ev h0 h1 hu.2 hd.2) hu hd b hb)
  by_cases h : u < 0
  · exact Ev.pos h (hj true (by simp [h]))
  · exact Ev.neg h (hj _ (by simp [h]))
theorem r1makeF {u d : Int} (hu : -9223372036854775808 ≤ u ∧ u ≤ 9223372036854775807) (hd : -9223372036854775808 ≤ d ∧ d ≤ 9223372036854775807) : hushref1_Make.F u d = some (makeS u d) := (hushref1_Make.F_is u d).of_ev (r1make_ev hu hd)
structure Rt (u d : Int) : Prop where
  u0 : 0 ≤ u
  d1 : 1 ≤ d
  u2 : u ≤ 1073741824
  d2 : d ≤ 1073741824
  co : Int.gcd u d = 1
theorem Rt.f {u d : Int} (h : Rt u d) : hushref1_Right.F u d = some true := by
  obtain ⟨h1, h2, h3, h4, h5⟩ := h
  rw [hushref1_Right.F_eq, if_pos h1, if_pos h2, if_pos h3, if_pos h4, divF h1 h2 (by omega) (by omega), Option.bind_some, h5]
  rfl
theorem makeS_ok {u d p q : Int} (h : makeS u d = (p, q, 0)) : 0 ≤ u ∧ 1 ≤ d ∧ Rt p q ∧ p * d = u * q := by
  unfold makeS at h
  split at h
  · simp at h
  · rename_i h0
    split at h
    · simp at h
    · rename_i h1
      have hd : 1 ≤ d := by omega
      have hu : 0 ≤ u := by omega
      have hg := gcd_pos (u := u) hd
      simp only [Prod.mk.injEq, and_true] at h
      obtain ⟨rfl, rfl⟩ := h
      have e1 : (Int.gcd u d : Int) * (u / (Int.gcd u d : Nat)) = u := Int.mul_ediv_cancel' (Int.gcd_dvd_left u d)
      have e2 : (Int.gcd u d : Int) * (d / (Int.gcd u d : Nat)) = d := Int.mul_ediv_cancel' (Int.gcd_dvd_right u d)
      have hq : 1 ≤ d / (Int.gcd u d : Nat) := by
        rcases Int.lt_or_le (d / (Int.gcd u d : Nat)) 1 with hl | hl
        · have : (Int.gcd u d : Int) * (d / (Int.gcd u d : Nat)) ≤ 0 := Int.mul_nonpos_of_nonneg_of_nonpos (by omega) (by omega)
          omega
        · exact hl
      refine ⟨hu, hd, ⟨Int.ediv_nonneg hu (by omega), hq, by omega, by omega, ?_⟩, ?_⟩
      · exact Int.gcd_ediv_gcd_ediv_gcd hg
      · calc u / (Int.gcd u d : Nat) * d = u / (Int.gcd u d : Nat) * ((Int.gcd u d : Int) * (d / (Int.gcd u d : Nat))) := by rw [e2]
          _ = ((Int.gcd u d : Int) * (u / (Int.gcd u d : Nat))) * (d / (Int.gcd u d : Nat)) := by grind
          _ = u * (d / (Int.gcd u d : Nat)) := by rw [e1]
theorem mul_bd {a b : Int} (ha : 0 ≤ a) (ha' : a ≤ 1073741824) (hb : 0 ≤ b) (hb' : b ≤ 1073741824) : 0 ≤ a * b ∧ a * b ≤ 1152921504606846976 :=
  ⟨Int.mul_nonneg ha hb, by have := Int.mul_le_mul ha' hb' hb (by omega : (0 : Int) ≤ 1073741824); omega⟩
theorem r1timesF {a b c d : Int} (h : Rt a b) (k : Rt c d) : hushref1_Times.F a b c d = some (makeS (a * c) (b * d)) := by
  have m1 := mul_bd h.u0 h.u2 k.u0 k.u2
  have m2 := mul_bd (show 0 ≤ b by have := h.d1; omega) h.d2 (show 0 ≤ d by have := k.d1; omega) k.d2
  rw [hushref1_Times.F_eq, h.f, Option.bind_some, if_pos rfl, k.f, Option.bind_some, if_pos rfl, wrap64_of (x := a * c) (by omega) (by omega), wrap64_of (x := b * d) (by omega) (by omega), r1makeF ⟨by omega, by omega⟩ ⟨by omega, by omega⟩, Option.bind_some]
theorem r1plusF {a b c d : Int} (h : Rt a b) (k : Rt c d) : hushref1_Plus.F a b c d = some (makeS (a * d + c * b) (b * d)) := by
  have m1 := mul_bd h.u0 h.u2 (show 0 ≤ d by have := k.d1; omega) k.d2
  have m3 := mul_bd k.u0 k.u2 (show 0 ≤ b by have := h.d1; omega) h.d2
  have m2 := mul_bd (show 0 ≤ b by have := h.d1; omega) h.d2 (show 0 ≤ d by have := k.d1; omega) k.d2
  rw [hushref1_Plus.F_eq, h.f, Option.bind_some, if_pos rfl, k.f, Option.bind_some, if_pos rfl, wrap64_of (x := a * d) (by omega) (by omega), wrap64_of (x := c * b) (by omega) (by omega), wrap64_of (x := a * d + c * b) (by omega) (by omega), wrap64_of (x := b * d) (by omega) (by omega), r1makeF ⟨by omega, by omega⟩ ⟨by omega, by omega⟩, Option.bind_some]
end Go.Proofs.Ytkemhfhmlcljjaa.DistPure
end
section
namespace Go.Proofs.Ytkemhfhmlcljjaa.PE
open Go.RowKit Go.Proofs.YtkemhfhmlcljjaaW.PrintWords Go.Proofs.YtkemhfhmlcljjaaW.PrintLast Go.Proofs.YtkemhfhmlcljjaaW.PrintMore
open Go.Proofs.YtkemhfhmlcljjaaW.EvKit
set_option linter.unusedVariables false
end Go.Proofs.Ytkemhfhmlcljjaa.PE
end
section
namespace Go.Proofs.Ytkemhfhmlcljjaa.PE
open Go.RowKit Go.Proofs.YtkemhfhmlcljjaaW.PrintWords Go.Proofs.YtkemhfhmlcljjaaW.PrintLast Go.Proofs.YtkemhfhmlcljjaaW.PrintMore
open Go.Proofs.YtkemhfhmlcljjaaW.EvKit
set_option linter.unusedVariables false
noncomputable def hushlaw2_DistMetric.J0 (x0 : List (S32)) (x1 : List (S32)) (x2 : List (S32)) (x8 : Int) (x70 : Bool) (x197000 : Int) (x197001 : Int) : Option (Bool) := lim (fun k => hushlaw2_DistMetric.j0 k x0 x1 x2 x8 x70 x197000 x197001)
theorem hushlaw2_DistMetric.J0_is (x0 : List (S32)) (x1 : List (S32)) (x2 : List (S32)) (x8 : Int) (x70 : Bool) (x197000 : Int) (x197001 : Int) : LimIs (fun k => hushlaw2_DistMetric.j0 k x0 x1 x2 x8 x70 x197000 x197001) (hushlaw2_DistMetric.J0 x0 x1 x2 x8 x70 x197000 x197001) := ⟨fun k => (hushlaw2_DistMetric.mono_l k).1 x0 x1 x2 x8 x70 x197000 x197001, rfl⟩
noncomputable def hushlaw2_DistMetric.J1 (x0 : List (S32)) (x1 : List (S32)) (x2 : List (S32)) (x8 : Int) (x12 : Int) (x116 : Bool) (x197000 : Int) (x197001 : Int) (x206000 : Int) (x206001 : Int) : Option (Bool) := lim (fun k => hushlaw2_DistMetric.j1 k x0 x1 x2 x8 x12 x116 x197000 x197001 x206000 x206001)
theorem hushlaw2_DistMetric.J1_is (x0 : List (S32)) (x1 : List (S32)) (x2 : List (S32)) (x8 : Int) (x12 : Int) (x116 : Bool) (x197000 : Int) (x197001 : Int) (x206000 : Int) (x206001 : Int) : LimIs (fun k => hushlaw2_DistMetric.j1 k x0 x1 x2 x8 x12 x116 x197000 x197001 x206000 x206001) (hushlaw2_DistMetric.J1 x0 x1 x2 x8 x12 x116 x197000 x197001 x206000 x206001) := ⟨fun k => (hushlaw2_DistMetric.mono_l k).2.1 x0 x1 x2 x8 x12 x116 x197000 x197001 x206000 x206001, rfl⟩
noncomputable def hushlaw2_DistMetric.J2 (x0 : List (S32)) (x1 : List (S32)) (x2 : List (S32)) (x12 : Int) (x16 : Int) (x134 : Bool) (x197000 : Int) (x197001 : Int) (x201000 : Int) (x201001 : Int) (x206000 : Int) (x206001 : Int) (x218000 : Int) (x218001 : Int) : Option (Bool) := lim (fun k => hushlaw2_DistMetric.j2 k x0 x1 x2 x12 x16 x134 x197000 x197001 x201000 x201001 x206000 x206001 x218000 x218001)
theorem hushlaw2_DistMetric.J2_is (x0 : List (S32)) (x1 : List (S32)) (x2 : List (S32)) (x12 : Int) (x16 : Int) (x134 : Bool) (x197000 : Int) (x197001 : Int) (x201000 : Int) (x201001 : Int) (x206000 : Int) (x206001 : Int) (x218000 : Int) (x218001 : Int) : LimIs (fun k => hushlaw2_DistMetric.j2 k x0 x1 x2 x12 x16 x134 x197000 x197001 x201000 x201001 x206000 x206001 x218000 x218001) (hushlaw2_DistMetric.J2 x0 x1 x2 x12 x16 x134 x197000 x197001 x201000 x201001 x206000 x206001 x218000 x218001) := ⟨fun k => (hushlaw2_DistMetric.mono_l k).2.2.1 x0 x1 x2 x12 x16 x134 x197000 x197001 x201000 x201001 x206000 x206001 x218000 x218001, rfl⟩
noncomputable def hushlaw2_DistMetric.J3 (x0 : List (S32)) (x1 : List (S32)) (x2 : List (S32)) (x12 : Int) (x206000 : Int) (x206001 : Int) : Option (Bool) := lim (fun k => hushlaw2_DistMetric.j3 k x0 x1 x2 x12 x206000 x206001)
theorem hushlaw2_DistMetric.J3_is (x0 : List (S32)) (x1 : List (S32)) (x2 : List (S32)) (x12 : Int) (x206000 : Int) (x206001 : Int) : LimIs (fun k => hushlaw2_DistMetric.j3 k x0 x1 x2 x12 x206000 x206001) (hushlaw2_DistMetric.J3 x0 x1 x2 x12 x206000 x206001) := ⟨fun k => (hushlaw2_DistMetric.mono_l k).2.2.2.1 x0 x1 x2 x12 x206000 x206001, rfl⟩
noncomputable def hushlaw2_DistMetric.J4 (x20 : Int) (x168 : Bool) (x206000 : Int) (x206001 : Int) (x210000 : Int) (x210001 : Int) (x230000 : Int) (x230001 : Int) : Option (Bool) := lim (fun k => hushlaw2_DistMetric.j4 k x20 x168 x206000 x206001 x210000 x210001 x230000 x230001)
theorem hushlaw2_DistMetric.J4_is (x20 : Int) (x168 : Bool) (x206000 : Int) (x206001 : Int) (x210000 : Int) (x210001 : Int) (x230000 : Int) (x230001 : Int) : LimIs (fun k => hushlaw2_DistMetric.j4 k x20 x168 x206000 x206001 x210000 x210001 x230000 x230001) (hushlaw2_DistMetric.J4 x20 x168 x206000 x206001 x210000 x210001 x230000 x230001) := ⟨fun k => (hushlaw2_DistMetric.mono_l k).2.2.2.2 x20 x168 x206000 x206001 x210000 x210001 x230000 x230001, rfl⟩
noncomputable def hushlaw2_DistMetric.F (l0 : List (S32)) (l1 : List (S32)) (l2 : List (S32)) : Option (Bool) := lim (fun k => hushlaw2_DistMetric.f k l0 l1 l2)
theorem hushlaw2_DistMetric.F_is (l0 : List (S32)) (l1 : List (S32)) (l2 : List (S32)) : LimIs (fun k => hushlaw2_DistMetric.f k l0 l1 l2) (hushlaw2_DistMetric.F l0 l1 l2) := ⟨fun k => hushlaw2_DistMetric.mono l0 l1 l2 k, rfl⟩
set_option maxRecDepth 100000 in
theorem hushlaw2_DistMetric.J0_eq (x0 : List (S32)) (x1 : List (S32)) (x2 : List (S32)) (x8 : Int) (x70 : Bool) (x197000 : Int) (x197001 : Int) : hushlaw2_DistMetric.J0 x0 x1 x2 x8 x70 x197000 x197001 = if x70 = true then (some false) else ((dist_Apart.F x0 x1).bind fun bt202 => ((dist_Apart.F x1 x0).bind fun bt206 => (if (!(bt202.1 == bt206.1) || (!(bt202.2.1 == bt206.2.1))) = true then (hushlaw2_DistMetric.J1 x0 x1 x2 x8 bt202.2.2 true x197000 x197001 bt202.1 bt202.2.1) else (if ((bt202.2.2 == 0) != (bt206.2.2 == 0)) = true then (hushlaw2_DistMetric.J1 x0 x1 x2 x8 bt202.2.2 true x197000 x197001 bt202.1 bt202.2.1) else (if bt202.2.2 = 0 then ((hushref2_Same.F x0 x1).bind fun t210 => (if ((bt202.1 == 0) != t210) = true then (hushlaw2_DistMetric.J1 x0 x1 x2 x8 bt202.2.2 true x197000 x197001 bt202.1 bt202.2.1) else (hushlaw2_DistMetric.J1 x0 x1 x2 x8 bt202.2.2 (decide (bt202.1 > bt202.2.1)) x197000 x197001 bt202.1 bt202.2.1))) else (hushlaw2_DistMetric.J1 x0 x1 x2 x8 bt202.2.2 false x197000 x197001 bt202.1 bt202.2.1)))))) := by
  refine LimIs.step' (hushlaw2_DistMetric.J0_is x0 x1 x2 x8 x70 x197000 x197001).1 (b := fun k => if x70 = true then (some false) else ((dist_Apart.f k x0 x1).bind fun bt202 => ((dist_Apart.f k x1 x0).bind fun bt206 => (if (!(bt202.1 == bt206.1) || (!(bt202.2.1 == bt206.2.1))) = true then (hushlaw2_DistMetric.j1 k x0 x1 x2 x8 bt202.2.2 true x197000 x197001 bt202.1 bt202.2.1) else (if ((bt202.2.2 == 0) != (bt206.2.2 == 0)) = true then (hushlaw2_DistMetric.j1 k x0 x1 x2 x8 bt202.2.2 true x197000 x197001 bt202.1 bt202.2.1) else (if bt202.2.2 = 0 then ((hushref2_Same.f k x0 x1).bind fun t210 => (if ((bt202.1 == 0) != t210) = true then (hushlaw2_DistMetric.j1 k x0 x1 x2 x8 bt202.2.2 true x197000 x197001 bt202.1 bt202.2.1) else (hushlaw2_DistMetric.j1 k x0 x1 x2 x8 bt202.2.2 (decide (bt202.1 > bt202.2.1)) x197000 x197001 bt202.1 bt202.2.1))) else (hushlaw2_DistMetric.j1 k x0 x1 x2 x8 bt202.2.2 false x197000 x197001 bt202.1 bt202.2.1))))))) (fun k => by first | rfl | rw [hushlaw2_DistMetric.j0]) ?_
  repeat' first
    | (with_reducible exact dist_Apart.F_is _ _)
    | (with_reducible exact hushlaw2_DistMetric.J1_is _ _ _ _ _ _ _ _ _ _)
    | (with_reducible exact hushref2_Same.F_is _ _)
    | (with_reducible exact LimIs.const _)
    | (with_reducible refine LimIs.ite ?_ ?_)
    | (with_reducible refine LimIs.bind ?_ (fun _ => ?_))
    | exact dist_Apart.F_is _ _
    | exact hushlaw2_DistMetric.J1_is _ _ _ _ _ _ _ _ _ _
    | exact hushref2_Same.F_is _ _
    | exact LimIs.const _
    | refine LimIs.ite ?_ ?_
    | refine LimIs.bind ?_ (fun _ => ?_)
set_option maxRecDepth 100000 in
theorem hushlaw2_DistMetric.J1_eq (x0 : List (S32)) (x1 : List (S32)) (x2 : List (S32)) (x8 : Int) (x12 : Int) (x116 : Bool) (x197000 : Int) (x197001 : Int) (x206000 : Int) (x206001 : Int) : hushlaw2_DistMetric.J1 x0 x1 x2 x8 x12 x116 x197000 x197001 x206000 x206001 = if x116 = true then (some false) else ((dist_Far.F x1 x2).bind fun bt211 => ((dist_Far.F x0 x2).bind fun bt214 => (if x8 = 0 then (hushlaw2_DistMetric.J2 x0 x1 x2 x12 bt214.2.2 (bt211.2.2 == 0) x197000 x197001 bt211.1 bt211.2.1 x206000 x206001 bt214.1 bt214.2.1) else (hushlaw2_DistMetric.J2 x0 x1 x2 x12 bt214.2.2 false x197000 x197001 bt211.1 bt211.2.1 x206000 x206001 bt214.1 bt214.2.1)))) := by
  refine LimIs.step' (hushlaw2_DistMetric.J1_is x0 x1 x2 x8 x12 x116 x197000 x197001 x206000 x206001).1 (b := fun k => if x116 = true then (some false) else ((dist_Far.f k x1 x2).bind fun bt211 => ((dist_Far.f k x0 x2).bind fun bt214 => (if x8 = 0 then (hushlaw2_DistMetric.j2 k x0 x1 x2 x12 bt214.2.2 (bt211.2.2 == 0) x197000 x197001 bt211.1 bt211.2.1 x206000 x206001 bt214.1 bt214.2.1) else (hushlaw2_DistMetric.j2 k x0 x1 x2 x12 bt214.2.2 false x197000 x197001 bt211.1 bt211.2.1 x206000 x206001 bt214.1 bt214.2.1))))) (fun k => by first | rfl | rw [hushlaw2_DistMetric.j1]) ?_
  repeat' first
    | (with_reducible exact dist_Far.F_is _ _)
    | (with_reducible exact hushlaw2_DistMetric.J2_is _ _ _ _ _ _ _ _ _ _ _ _ _ _)
    | (with_reducible exact LimIs.const _)
    | (with_reducible refine LimIs.ite ?_ ?_)
    | (with_reducible refine LimIs.bind ?_ (fun _ => ?_))
    | exact dist_Far.F_is _ _
    | exact hushlaw2_DistMetric.J2_is _ _ _ _ _ _ _ _ _ _ _ _ _ _
    | exact LimIs.const _
    | refine LimIs.ite ?_ ?_
    | refine LimIs.bind ?_ (fun _ => ?_)
set_option maxRecDepth 100000 in
theorem hushlaw2_DistMetric.J2_eq (x0 : List (S32)) (x1 : List (S32)) (x2 : List (S32)) (x12 : Int) (x16 : Int) (x134 : Bool) (x197000 : Int) (x197001 : Int) (x201000 : Int) (x201001 : Int) (x206000 : Int) (x206001 : Int) (x218000 : Int) (x218001 : Int) : hushlaw2_DistMetric.J2 x0 x1 x2 x12 x16 x134 x197000 x197001 x201000 x201001 x206000 x206001 x218000 x218001 = if x134 = true then ((hushref1_Times.F x197000 x197001 x201000 x201001).bind fun bt218 => (if x16 = 6 then (some false) else ((hushlaw2_most.f x218000 x218001 x16 bt218.1 bt218.2.1 bt218.2.2).bind fun t222 => (if t222 = true then (hushlaw2_DistMetric.J3 x0 x1 x2 x12 x206000 x206001) else (some false))))) else (hushlaw2_DistMetric.J3 x0 x1 x2 x12 x206000 x206001) := by
  refine LimIs.step' (hushlaw2_DistMetric.J2_is x0 x1 x2 x12 x16 x134 x197000 x197001 x201000 x201001 x206000 x206001 x218000 x218001).1 (b := fun k => if x134 = true then ((hushref1_Times.f k x197000 x197001 x201000 x201001).bind fun bt218 => (if x16 = 6 then (some false) else ((hushlaw2_most.f x218000 x218001 x16 bt218.1 bt218.2.1 bt218.2.2).bind fun t222 => (if t222 = true then (hushlaw2_DistMetric.j3 k x0 x1 x2 x12 x206000 x206001) else (some false))))) else (hushlaw2_DistMetric.j3 k x0 x1 x2 x12 x206000 x206001)) (fun k => by first | rfl | rw [hushlaw2_DistMetric.j2]) ?_
  repeat' first
    | (with_reducible exact hushref1_Times.F_is _ _ _ _)
    | (with_reducible exact hushlaw2_DistMetric.J3_is _ _ _ _ _ _)
    | (with_reducible exact LimIs.const _)
    | (with_reducible refine LimIs.ite ?_ ?_)
    | (with_reducible refine LimIs.bind ?_ (fun _ => ?_))
    | exact hushref1_Times.F_is _ _ _ _
    | exact hushlaw2_DistMetric.J3_is _ _ _ _ _ _
    | exact LimIs.const _
    | refine LimIs.ite ?_ ?_
    | refine LimIs.bind ?_ (fun _ => ?_)
set_option maxRecDepth 100000 in
theorem hushlaw2_DistMetric.J3_eq (x0 : List (S32)) (x1 : List (S32)) (x2 : List (S32)) (x12 : Int) (x206000 : Int) (x206001 : Int) : hushlaw2_DistMetric.J3 x0 x1 x2 x12 x206000 x206001 = (dist_Apart.F x1 x2).bind fun bt223 => ((dist_Apart.F x0 x2).bind fun bt226 => (if x12 = 0 then (hushlaw2_DistMetric.J4 bt226.2.2 (bt223.2.2 == 0) x206000 x206001 bt223.1 bt223.2.1 bt226.1 bt226.2.1) else (hushlaw2_DistMetric.J4 bt226.2.2 false x206000 x206001 bt223.1 bt223.2.1 bt226.1 bt226.2.1))) := by
  refine LimIs.step' (hushlaw2_DistMetric.J3_is x0 x1 x2 x12 x206000 x206001).1 (b := fun k => (dist_Apart.f k x1 x2).bind fun bt223 => ((dist_Apart.f k x0 x2).bind fun bt226 => (if x12 = 0 then (hushlaw2_DistMetric.j4 k bt226.2.2 (bt223.2.2 == 0) x206000 x206001 bt223.1 bt223.2.1 bt226.1 bt226.2.1) else (hushlaw2_DistMetric.j4 k bt226.2.2 false x206000 x206001 bt223.1 bt223.2.1 bt226.1 bt226.2.1)))) (fun k => by first | rfl | rw [hushlaw2_DistMetric.j3]) ?_
  repeat' first
    | (with_reducible exact dist_Apart.F_is _ _)
    | (with_reducible exact hushlaw2_DistMetric.J4_is _ _ _ _ _ _ _ _)
    | (with_reducible exact LimIs.const _)
    | (with_reducible refine LimIs.ite ?_ ?_)
    | (with_reducible refine LimIs.bind ?_ (fun _ => ?_))
    | exact dist_Apart.F_is _ _
    | exact hushlaw2_DistMetric.J4_is _ _ _ _ _ _ _ _
    | exact LimIs.const _
    | refine LimIs.ite ?_ ?_
    | refine LimIs.bind ?_ (fun _ => ?_)
set_option maxRecDepth 100000 in
theorem hushlaw2_DistMetric.J4_eq (x20 : Int) (x168 : Bool) (x206000 : Int) (x206001 : Int) (x210000 : Int) (x210001 : Int) (x230000 : Int) (x230001 : Int) : hushlaw2_DistMetric.J4 x20 x168 x206000 x206001 x210000 x210001 x230000 x230001 = if x168 = true then ((hushref1_Plus.F x206000 x206001 x210000 x210001).bind fun bt230 => ((hushlaw2_most.f x230000 x230001 x20 bt230.1 bt230.2.1 bt230.2.2).bind fun t234 => (if t234 = true then (some true) else (some false)))) else (some true) := by
  refine LimIs.step' (hushlaw2_DistMetric.J4_is x20 x168 x206000 x206001 x210000 x210001 x230000 x230001).1 (b := fun k => if x168 = true then ((hushref1_Plus.f k x206000 x206001 x210000 x210001).bind fun bt230 => ((hushlaw2_most.f x230000 x230001 x20 bt230.1 bt230.2.1 bt230.2.2).bind fun t234 => (if t234 = true then (some true) else (some false)))) else (some true)) (fun k => by first | rfl | rw [hushlaw2_DistMetric.j4]) ?_
  repeat' first
    | (with_reducible exact hushref1_Plus.F_is _ _ _ _)
    | (with_reducible exact LimIs.const _)
    | (with_reducible refine LimIs.ite ?_ ?_)
    | (with_reducible refine LimIs.bind ?_ (fun _ => ?_))
    | exact hushref1_Plus.F_is _ _ _ _
    | exact LimIs.const _
    | refine LimIs.ite ?_ ?_
    | refine LimIs.bind ?_ (fun _ => ?_)
set_option maxRecDepth 100000 in
theorem hushlaw2_DistMetric.F_eq (l0 : List (S32)) (l1 : List (S32)) (l2 : List (S32)) : hushlaw2_DistMetric.F l0 l1 l2 = (hushlaw2_alive.F).bind fun t192 => (if t192 = true then ((dist_Far.F l0 l1).bind fun bt193 => ((dist_Far.F l1 l0).bind fun bt197 => (if (!(bt193.1 == bt197.1) || (!(bt193.2.1 == bt197.2.1))) = true then (hushlaw2_DistMetric.J0 l0 l1 l2 bt193.2.2 true bt193.1 bt193.2.1) else (if ((bt193.2.2 == 0) != (bt197.2.2 == 0)) = true then (hushlaw2_DistMetric.J0 l0 l1 l2 bt193.2.2 true bt193.1 bt193.2.1) else (if bt193.2.2 = 0 then ((hushref2_Same.F l0 l1).bind fun t201 => (if ((bt193.1 == 1 && (bt193.2.1 == 1)) != t201) = true then (hushlaw2_DistMetric.J0 l0 l1 l2 bt193.2.2 true bt193.1 bt193.2.1) else (hushlaw2_DistMetric.J0 l0 l1 l2 bt193.2.2 (decide (bt193.1 < bt193.2.1)) bt193.1 bt193.2.1))) else (hushlaw2_DistMetric.J0 l0 l1 l2 bt193.2.2 false bt193.1 bt193.2.1)))))) else (some false)) := by
  refine LimIs.out (?_ : LimIs (fun k => (hushlaw2_alive.f k).bind fun t192 => (if t192 = true then ((dist_Far.f k l0 l1).bind fun bt193 => ((dist_Far.f k l1 l0).bind fun bt197 => (if (!(bt193.1 == bt197.1) || (!(bt193.2.1 == bt197.2.1))) = true then (hushlaw2_DistMetric.j0 k l0 l1 l2 bt193.2.2 true bt193.1 bt193.2.1) else (if ((bt193.2.2 == 0) != (bt197.2.2 == 0)) = true then (hushlaw2_DistMetric.j0 k l0 l1 l2 bt193.2.2 true bt193.1 bt193.2.1) else (if bt193.2.2 = 0 then ((hushref2_Same.f k l0 l1).bind fun t201 => (if ((bt193.1 == 1 && (bt193.2.1 == 1)) != t201) = true then (hushlaw2_DistMetric.j0 k l0 l1 l2 bt193.2.2 true bt193.1 bt193.2.1) else (hushlaw2_DistMetric.j0 k l0 l1 l2 bt193.2.2 (decide (bt193.1 < bt193.2.1)) bt193.1 bt193.2.1))) else (hushlaw2_DistMetric.j0 k l0 l1 l2 bt193.2.2 false bt193.1 bt193.2.1)))))) else (some false))) _)
  repeat' first
    | (with_reducible exact hushlaw2_alive.F_is)
    | (with_reducible exact dist_Far.F_is _ _)
    | (with_reducible exact hushlaw2_DistMetric.J0_is _ _ _ _ _ _ _)
    | (with_reducible exact hushref2_Same.F_is _ _)
    | (with_reducible exact LimIs.const _)
    | (with_reducible refine LimIs.ite ?_ ?_)
    | (with_reducible refine LimIs.bind ?_ (fun _ => ?_))
    | exact hushlaw2_alive.F_is
    | exact dist_Far.F_is _ _
    | exact hushlaw2_DistMetric.J0_is _ _ _ _ _ _ _
    | exact hushref2_Same.F_is _ _
    | exact LimIs.const _
    | refine LimIs.ite ?_ ?_
    | refine LimIs.bind ?_ (fun _ => ?_)
end Go.Proofs.Ytkemhfhmlcljjaa.PE
end
section
namespace Go.Proofs.Ytkemhfhmlcljjaa.DistPure
set_option linter.unusedVariables false
set_option linter.unusedSimpArgs false
open Go.RowKit Go.Proofs.Ytkemhfhmlcljjaa.PE Go.Proofs.YtkemhfhmlcljjaaW.PrintWords Go.Proofs.YtkemhfhmlcljjaaW.PrintLast Go.Proofs.YtkemhfhmlcljjaaW.PrintMore Go.Proofs.YtkemhfhmlcljjaaW.EvKit
theorem ones (l : List Int) : (l.map (fun _ => 1)).sum = l.length := by
  induction l with
  | nil => rfl
  | cons a l ih => rw [List.map_cons, List.sum_cons, ih, List.length_cons]; omega
theorem bulk_bd : ∀ (l : List S32), l.length ≤ (l.map (fun z => ((((z.f0.map (fun _ => 1)).sum + 1) + 1) + 1))).sum ∧ ∀ p ∈ l, p.f0.length ≤ (l.map (fun z => ((((z.f0.map (fun _ => 1)).sum + 1) + 1) + 1))).sum
  | [] => ⟨by simp, by simp⟩
  | q :: l => by
    obtain ⟨h1, h2⟩ := bulk_bd l
    rw [List.map_cons, List.sum_cons, ones]
    refine ⟨by rw [List.length_cons]; omega, fun p hp => ?_⟩
    rcases List.mem_cons.1 hp with e | e
    · rw [e]; omega
    · have := h2 p e
      omega
theorem make_three : makeP [(⟨[3], 1⟩ : S32)] = ([⟨[3], 1⟩], 0) := by
  have h1 : tMerge (sortP [(⟨[3], 1⟩ : S32)]) = [⟨[3], 1⟩] := by
    have : sortP [(⟨[3], 1⟩ : S32)] = [⟨[3], 1⟩] := List.mergeSort_singleton _
    rw [this]; rfl
  unfold makeP
  rw [if_pos (by decide), h1]
  rfl
theorem aliveF : hushlaw2_alive.F = some true := by
  have hb : Bd [(⟨[3], 1⟩ : S32)] := ⟨by simp, fun p hp => by rw [List.mem_singleton.1 hp]; simp⟩
  rw [hushlaw2_alive.F_eq, dist_Sure.F_eq, makeF1 _ hb, make_three, Option.bind_some, Option.bind_some]
  rfl
theorem mostF {a b c d : Int} (e w : Int) (h : e = 0 → w = 0 → Rt a b ∧ Rt c d ∧ a * d ≤ c * b) : hushlaw2_most.f a b e c d w = some true := by
  unfold hushlaw2_most.f
  by_cases c1 : e = 0
  · rw [if_pos c1]
    by_cases c2 : w = 0
    · rw [if_pos c2]
      obtain ⟨h1, h2, h3⟩ := h c1 c2
      have m1 := mul_bd h1.u0 h1.u2 (show 0 ≤ d by have := h2.d1; omega) h2.d2
      have m2 := mul_bd h2.u0 h2.u2 (show 0 ≤ b by have := h1.d1; omega) h1.d2
      unfold hushref1_Most.f
      rw [wrap64_of (by omega) (by omega), wrap64_of (by omega) (by omega), Option.bind_some, decide_eq_true h3]
    · rw [if_neg c2]
  · rw [if_neg c1]
theorem far_rt {a b : List S32} {ta tb : Nat} {s : Nat × Nat} (h : FarOK a b ta tb s) (h1 : s.1 ≤ 1073741824) (h2 : s.2 ≤ 1073741824) : Rt (s.1 : Int) (s.2 : Int) :=
  ⟨by omega, by have := h.mx.pos.2; omega, by omega, by omega, h.co⟩
theorem far_law {a b c : List S32} (ha : Bd a) (hb : Bd b) (hc : Bd c) (h1 : (farP a b).2.2 = 0) (h2 : (farP b c).2.2 = 0) :
    ∃ p, hushref1_Times.F (farP a b).1 (farP a b).2.1 (farP b c).1 (farP b c).2.1 = some p ∧ ¬ (farP a c).2.2 = 6 ∧ hushlaw2_most.f (farP a c).1 (farP a c).2.1 (farP a c).2.2 p.1 p.2.1 p.2.2 = some true := by
  obtain ⟨ta, tb, r, f1, e1, r1, r2⟩ := far_yes ha hb h1
  obtain ⟨tb', tc, q, f2, e2, q1, q2⟩ := far_yes hb hc h2
  have hn := far_links f1 f2
  obtain ⟨ta', tc', s, f3, e3⟩ := far_mk ha hc f1.two.a.wr f2.two.b.wr hn
  have hle := far_three f1 f2 f3
  have R1 := far_rt f1 r1 r2
  have R2 := far_rt f2 q1 q2
  rw [e1, e2, e3]
  refine ⟨_, r1timesF R1 R2, ?_, ?_⟩
  · unfold farOut
    split <;> (dsimp only; omega)
  · refine mostF _ _ (fun x1 x2 => ?_)
    obtain ⟨y1, y2, y3⟩ := farOut_ok x1
    rw [y1]
    dsimp only at x2 ⊢
    generalize hp : makeS ((r.1 : Int) * (q.1 : Int)) ((r.2 : Int) * (q.2 : Int)) = p at *
    obtain ⟨p1, p2, p3⟩ := p
    dsimp only at x2 ⊢
    subst x2
    obtain ⟨z1, z2, z3, z4⟩ := makeS_ok hp
    refine ⟨far_rt f3 y2 y3, z3, ?_⟩
    unfold le2 at hle
    dsimp only at hle
    have hle' : (s.1 : Int) * ((r.2 : Int) * (q.2 : Int)) ≤ ((r.1 : Int) * (q.1 : Int)) * (s.2 : Int) := by exact_mod_cast hle
    have hM := z2
    generalize (r.2 : Int) * (q.2 : Int) = M at *
    generalize (r.1 : Int) * (q.1 : Int) = K at *
    have h3 : (s.1 : Int) * p2 * M ≤ p1 * (s.2 : Int) * M := by
      calc (s.1 : Int) * p2 * M = (s.1 : Int) * M * p2 := by grind
        _ ≤ K * (s.2 : Int) * p2 := Int.mul_le_mul_of_nonneg_right hle' (by have := z3.d1; omega)
        _ = K * p2 * (s.2 : Int) := by grind
        _ = p1 * M * (s.2 : Int) := by rw [z4]
        _ = p1 * (s.2 : Int) * M := by grind
    exact Int.le_of_mul_le_mul_right h3 (by omega)
theorem apart_law {a b c : List S32} (ha : Bd a) (hb : Bd b) (hc : Bd c) (h1 : (apartP a b).2.2 = 0) (h2 : (apartP b c).2.2 = 0) :
    ∃ p, hushref1_Plus.F (apartP a b).1 (apartP a b).2.1 (apartP b c).1 (apartP b c).2.1 = some p ∧ hushlaw2_most.f (apartP a c).1 (apartP a c).2.1 (apartP a c).2.2 p.1 p.2.1 p.2.2 = some true := by
  obtain ⟨t1, x1, x2, e1, a1, a2, a3, a4, a5, a6, _⟩ := apart_yes ha hb h1
  obtain ⟨t2, y1, y2, e2, b1, b2, b3, b4, b5, b6, _⟩ := apart_yes hb hc h2
  have R1 : Rt x1 x2 := ⟨a1, a3, by omega, a4, a5⟩
  have R2 : Rt y1 y2 := ⟨b1, b3, by omega, b4, b5⟩
  rw [e1, e2]
  refine ⟨_, r1plusF R1 R2, ?_⟩
  refine mostF _ _ (fun u1 u2 => ?_)
  obtain ⟨t3, z1, z2, e3, c1, c2, c3, c4, c5, c6, _⟩ := apart_yes ha hc u1
  rw [e3]
  dsimp only at u2 ⊢
  generalize hp : makeS (x1 * y2 + y1 * x2) (x2 * y2) = p at *
  obtain ⟨p1, p2, p3⟩ := p
  dsimp only at u2 ⊢
  subst u2
  obtain ⟨w1, w2, w3, w4⟩ := makeS_ok hp
  refine ⟨⟨c1, c3, by omega, c4, c5⟩, w3, ?_⟩
  have hk := apart_three t1 t2 t3
  have q1 := t1.tpos
  have q2 := t2.tpos
  have hp2 := w3.d1
  generalize totOf a = ta at *
  generalize totOf b = tb at *
  generalize totOf c = tc at *
  generalize apSum a c = nac at *
  generalize apSum a b = nab at *
  generalize apSum b c = nbc at *
  have hM : 0 < ta * tb * tc * (x2 * y2) := Int.mul_pos (Int.mul_pos (Int.mul_pos (by omega) (by omega)) (by omega)) (by omega)
  have hN : 0 ≤ z2 * p2 * (x2 * y2) := Int.mul_nonneg (Int.mul_nonneg (by omega) (by omega)) (by omega)
  have hk' := Int.mul_le_mul_of_nonneg_right hk hN
  have l1 : z1 * p2 * (ta * tb * tc * (x2 * y2)) = nac * tb * (z2 * p2 * (x2 * y2)) := by
    calc z1 * p2 * (ta * tb * tc * (x2 * y2)) = (z1 * (ta * tc)) * (tb * p2 * (x2 * y2)) := by grind
      _ = (nac * z2) * (tb * p2 * (x2 * y2)) := by rw [c6]
      _ = _ := by grind
  have l2 : p1 * z2 * (ta * tb * tc * (x2 * y2)) = (nab * tc + nbc * ta) * (z2 * p2 * (x2 * y2)) := by
    calc p1 * z2 * (ta * tb * tc * (x2 * y2)) = (p1 * (x2 * y2)) * (z2 * (ta * tb * tc)) := by grind
      _ = ((x1 * y2 + y1 * x2) * p2) * (z2 * (ta * tb * tc)) := by rw [w4]
      _ = (x1 * (ta * tb)) * (y2 * p2 * z2 * tc) + (y1 * (tb * tc)) * (x2 * p2 * z2 * ta) := by grind
      _ = (nab * x2) * (y2 * p2 * z2 * tc) + (nbc * y2) * (x2 * p2 * z2 * ta) := by rw [a6, b6]
      _ = _ := by grind
  exact Int.le_of_mul_le_mul_right (by rw [l1, l2]; exact hk') hM
end Go.Proofs.Ytkemhfhmlcljjaa.DistPure
namespace Go.Proofs.Ytkemhfhmlcljjaa.Pure
set_option linter.unusedVariables false
open Go.RowKit Go.Proofs.Ytkemhfhmlcljjaa.PE Go.Proofs.YtkemhfhmlcljjaaW.PrintWords Go.Proofs.YtkemhfhmlcljjaaW.PrintLast Go.Proofs.YtkemhfhmlcljjaaW.PrintMore Go.Proofs.YtkemhfhmlcljjaaW.EvKit Go.Proofs.Ytkemhfhmlcljjaa.DistPure
theorem bne_iff_false {p q : Prop} [Decidable p] [Decidable q] (h : p ↔ q) : (decide p != decide q) = false := by
  rw [decide_eq_decide.2 h]; exact bne_self_eq_false _
theorem DistMetric : hushlaw2_DistMetric.Pure := by
  intro a b c _ _ _ hb
  have b0 := bulk_bd a
  have b1 := bulk_bd b
  have b2 := bulk_bd c
  have h0 : Bd a := ⟨by omega, fun p hp => by have := b0.2 p hp; omega⟩
  have h1 : Bd b := ⟨by omega, fun p hp => by have := b1.2 p hp; omega⟩
  have h2 : Bd c := ⟨by omega, fun p hp => by have := b2.2 p hp; omega⟩
  clear hb b0 b1 b2
  refine (hushlaw2_DistMetric.F_is a b c).rounds ?_
  have J3 : ∀ y1 y2 : Int, y1 = (apartP a b).1 → y2 = (apartP a b).2.1 → hushlaw2_DistMetric.J3 a b c (apartP a b).2.2 y1 y2 = some true := by
    rintro _ _ rfl rfl
    rw [hushlaw2_DistMetric.J3_eq, apartF b c h1 h2, Option.bind_some, apartF a c h0 h2, Option.bind_some]
    have J4 : ∀ f : Bool, (f = true → (apartP a b).2.2 = 0 ∧ (apartP b c).2.2 = 0) → hushlaw2_DistMetric.J4 (apartP a c).2.2 f (apartP a b).1 (apartP a b).2.1 (apartP b c).1 (apartP b c).2.1 (apartP a c).1 (apartP a c).2.1 = some true := by
      intro f hf
      rw [hushlaw2_DistMetric.J4_eq]
      cases f with
      | false => rw [if_neg (by decide)]
      | true =>
        obtain ⟨x1, x2⟩ := hf rfl
        obtain ⟨p, q1, q2⟩ := apart_law h0 h1 h2 x1 x2
        rw [if_pos rfl, q1, Option.bind_some, q2, Option.bind_some, if_pos rfl]
    by_cases x : (apartP a b).2.2 = 0
    · rw [if_pos x]
      exact J4 _ (fun e => ⟨x, by simpa using e⟩)
    · rw [if_neg x]
      exact J4 false (fun e => by cases e)
  have J1 : hushlaw2_DistMetric.J1 a b c (farP a b).2.2 (apartP a b).2.2 false (farP a b).1 (farP a b).2.1 (apartP a b).1 (apartP a b).2.1 = some true := by
    rw [hushlaw2_DistMetric.J1_eq, if_neg (by decide), farF b c h1 h2, Option.bind_some, farF a c h0 h2, Option.bind_some]
    have J2 : ∀ f : Bool, (f = true → (farP a b).2.2 = 0 ∧ (farP b c).2.2 = 0) → hushlaw2_DistMetric.J2 a b c (apartP a b).2.2 (farP a c).2.2 f (farP a b).1 (farP a b).2.1 (farP b c).1 (farP b c).2.1 (apartP a b).1 (apartP a b).2.1 (farP a c).1 (farP a c).2.1 = some true := by
      intro f hf
      rw [hushlaw2_DistMetric.J2_eq]
      cases f with
      | false => rw [if_neg (by decide)]; exact J3 _ _ rfl rfl
      | true =>
        obtain ⟨x1, x2⟩ := hf rfl
        obtain ⟨p, q1, q2, q3⟩ := far_law h0 h1 h2 x1 x2
        rw [if_pos rfl, q1, Option.bind_some, if_neg q2, q3, Option.bind_some, if_pos rfl]
        exact J3 _ _ rfl rfl
    by_cases x : (farP a b).2.2 = 0
    · rw [if_pos x]
      exact J2 _ (fun e => ⟨x, by simpa using e⟩)
    · rw [if_neg x]
      exact J2 false (fun e => by cases e)
  have J0 : hushlaw2_DistMetric.J0 a b c (farP a b).2.2 false (farP a b).1 (farP a b).2.1 = some true := by
    obtain ⟨s1, s2, s3⟩ := apart_swap a b
    rw [hushlaw2_DistMetric.J0_eq, if_neg (by decide), apartF a b h0 h1, Option.bind_some, apartF b a h1 h0, Option.bind_some, ← s1, ← s2, if_neg (by simp)]
    rw [if_neg (by rw [show (((apartP a b).2.2 == 0) != ((apartP b a).2.2 == 0)) = false from bne_iff_false s3]; decide)]
    by_cases x : (apartP a b).2.2 = 0
    · obtain ⟨t, u, v, e, d1, d2, d3, d4, d5, d6, d7⟩ := apart_yes h0 h1 x
      rw [if_pos x, rsameF a b h0 h1, Option.bind_some]
      have e1 : (apartP a b).1 = u := by rw [e]
      have e2 : (apartP a b).2.1 = v := by rw [e]
      rw [if_neg (by rw [show (((apartP a b).1 == 0) != decide (a = b)) = false from bne_iff_false (by rw [e1, d7]; exact apart_same t)]; decide)]
      rw [show decide ((apartP a b).1 > (apartP a b).2.1) = false from decide_eq_false (by rw [e1, e2]; omega)]
      exact J1
    · rw [if_neg x]
      exact J1
  obtain ⟨s1, s2, s3⟩ := far_sym a b
  rw [hushlaw2_DistMetric.F_eq, aliveF, Option.bind_some, if_pos rfl, farF a b h0 h1, Option.bind_some, farF b a h1 h0, Option.bind_some, ← s1, ← s2, if_neg (by simp)]
  rw [if_neg (by rw [show (((farP a b).2.2 == 0) != ((farP b a).2.2 == 0)) = false from bne_iff_false s3]; decide)]
  by_cases x : (farP a b).2.2 = 0
  · obtain ⟨ta, tb, s, f, e, d1, d2⟩ := far_yes h0 h1 x
    rw [if_pos x, rsameF a b h0 h1, Option.bind_some]
    have e1 : (farP a b).1 = (s.1 : Int) := by rw [e]
    have e2 : (farP a b).2.1 = (s.2 : Int) := by rw [e]
    have hone := f.mx.one
    unfold le2 at hone
    dsimp only at hone
    have hf := far_one f
    have hb : ((farP a b).1 == 1 && ((farP a b).2.1 == 1)) = decide (a = b) := by
      rw [e1, e2, Bool.eq_iff_iff, Bool.and_eq_true, beq_iff_eq, beq_iff_eq, decide_eq_true_eq, ← hf]
      omega
    rw [if_neg (by rw [hb, bne_self_eq_false]; decide)]
    rw [show decide ((farP a b).1 < (farP a b).2.1) = false from decide_eq_false (by rw [e1, e2]; omega)]
    exact J0
  · rw [if_neg x]
    exact J0
end Go.Proofs.Ytkemhfhmlcljjaa.Pure
end

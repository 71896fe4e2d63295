/- The pure texts of this claim, its functions behind all rounds among them, and small steps. Conditions stand in each theorem. -/
import Derived.Test.YtfoolbcfpedhmaaPBx10
import Derived.Test.YtfoolbcfpedhmaaLim
import Derived.Test.YtfoolbcfpedhmaaPBx0
import Derived.Test.YtfoolbcfpedhmaaPBx1
import Derived.Test.YtfoolbcfpedhmaaPBx5
import Derived.Test.YtfoolbcfpedhmaaPBx2
import Derived.Test.YtfoolbcfpedhmaaPBx4
import Derived.Test.YtfoolbcfpedhmaaPBx3
import Derived.Test.YtfoolbcfpedhmaaPBx8
import Derived.Test.YtfoolbcfpedhmaaPBx7
import Derived.Test.YtfoolbcfpedhmaaPBx6
import Derived.Test.YtfoolbcfpedhmaaPBx9
import Derived.Test.YtfoolbcfpedhmaaPBx13
import Derived.Test.YtfoolbcfpedhmaaEvKit
import Derived.Test.YtfoolbcfpedhmaaPBx12
import Derived.Test.YtfoolbcfpedhmaaPBx11
import Derived.Test.YtfoolbcfpedhmaaPBx14
section
namespace Go.Proofs.Ytfoolbcfpedhmaa.PB
open Go.RowKit Go.Proofs.YtfoolbcfpedhmaaW.PrintWords Go.Proofs.YtfoolbcfpedhmaaW.PrintLast Go.Proofs.YtfoolbcfpedhmaaW.PrintMore
open Go.Proofs.YtfoolbcfpedhmaaW.EvKit
set_option linter.unusedVariables false
end Go.Proofs.Ytfoolbcfpedhmaa.PB
end
section
namespace Go.Proofs.Ytfoolbcfpedhmaa.PB
open Go.RowKit Go.Proofs.YtfoolbcfpedhmaaW.PrintWords Go.Proofs.YtfoolbcfpedhmaaW.PrintLast Go.Proofs.YtfoolbcfpedhmaaW.PrintMore
open Go.Proofs.YtfoolbcfpedhmaaW.EvKit
set_option linter.unusedVariables false
noncomputable def hushlaw13_wide.L0 (x0 : Int) (x5 : Int) (x7 : Int) (x8 : Int) : Option (Bool) := lim (fun k => hushlaw13_wide.l0 k x0 x5 x7 x8)
theorem hushlaw13_wide.L0_is (x0 : Int) (x5 : Int) (x7 : Int) (x8 : Int) : LimIs (fun k => hushlaw13_wide.l0 k x0 x5 x7 x8) (hushlaw13_wide.L0 x0 x5 x7 x8) := ⟨fun k => (hushlaw13_wide.mono_l k) x0 x5 x7 x8, rfl⟩
noncomputable def hushlaw13_wide.F (a0 : Int) (l1 : List Int) : Option (Bool) := lim (fun k => hushlaw13_wide.f k a0 l1)
theorem hushlaw13_wide.F_is (a0 : Int) (l1 : List Int) : LimIs (fun k => hushlaw13_wide.f k a0 l1) (hushlaw13_wide.F a0 l1) := ⟨fun k => hushlaw13_wide.mono a0 l1 k, rfl⟩
set_option maxRecDepth 100000 in
theorem hushlaw13_wide.L0_eq (x0 : Int) (x5 : Int) (x7 : Int) (x8 : Int) : hushlaw13_wide.L0 x0 x5 x7 x8 = if x8 < x7 then (if x0 < 2 then (some false) else (if x0 = 0 then (none) else (if x5 > (wrap64 (Int.tdiv (1048576 : Int) x0)) then (some true) else (hushlaw13_wide.L0 x0 (wrap64 (x5 * x0)) x7 (wrap64 (x8 + 1)))))) else (some false) := by
  refine LimIs.step' (hushlaw13_wide.L0_is x0 x5 x7 x8).1 (b := fun k => if x8 < x7 then (if x0 < 2 then (some false) else (if x0 = 0 then (none) else (if x5 > (wrap64 (Int.tdiv (1048576 : Int) x0)) then (some true) else (hushlaw13_wide.l0 k x0 (wrap64 (x5 * x0)) x7 (wrap64 (x8 + 1)))))) else (some false)) (fun k => by first | rfl | rw [hushlaw13_wide.l0]) ?_
  repeat' first
    | (with_reducible exact hushlaw13_wide.L0_is _ _ _ _)
    | (with_reducible exact LimIs.const _)
    | (with_reducible refine LimIs.ite ?_ ?_)
    | (with_reducible refine LimIs.bind ?_ (fun _ => ?_))
    | exact hushlaw13_wide.L0_is _ _ _ _
    | exact LimIs.const _
    | refine LimIs.ite ?_ ?_
    | refine LimIs.bind ?_ (fun _ => ?_)
set_option maxRecDepth 100000 in
theorem hushlaw13_wide.F_eq (a0 : Int) (l1 : List Int) : hushlaw13_wide.F a0 l1 = hushlaw13_wide.L0 a0 1 (l1.length : Int) 0 := by
  refine LimIs.out (?_ : LimIs (fun k => hushlaw13_wide.l0 k a0 1 (l1.length : Int) 0) _)
  repeat' first
    | (with_reducible exact hushlaw13_wide.L0_is _ _ _ _)
    | (with_reducible exact LimIs.const _)
    | (with_reducible refine LimIs.ite ?_ ?_)
    | (with_reducible refine LimIs.bind ?_ (fun _ => ?_))
    | exact hushlaw13_wide.L0_is _ _ _ _
    | exact LimIs.const _
    | refine LimIs.ite ?_ ?_
    | refine LimIs.bind ?_ (fun _ => ?_)
end Go.Proofs.Ytfoolbcfpedhmaa.PB
end
section
namespace Go.Proofs.Ytfoolbcfpedhmaa.PB
open Go.RowKit Go.Proofs.YtfoolbcfpedhmaaW.PrintWords Go.Proofs.YtfoolbcfpedhmaaW.PrintLast Go.Proofs.YtfoolbcfpedhmaaW.PrintMore
open Go.Proofs.YtfoolbcfpedhmaaW.EvKit
set_option linter.unusedVariables false
noncomputable def slices_IndexFunc_int_int.L0 (x0 : List Int) (x7 : Int) (x8 : Int) : Option (Int) := lim (fun k => slices_IndexFunc_int_int.l0 k x0 x7 x8)
theorem slices_IndexFunc_int_int.L0_is (x0 : List Int) (x7 : Int) (x8 : Int) : LimIs (fun k => slices_IndexFunc_int_int.l0 k x0 x7 x8) (slices_IndexFunc_int_int.L0 x0 x7 x8) := ⟨fun k => (slices_IndexFunc_int_int.mono_l k) x0 x7 x8, rfl⟩
noncomputable def dist_total.L0 (x3 : Int) (x6 : List (S38)) (x7 : Int) (x8 : Int) : Option (Int) := lim (fun k => dist_total.l0 k x3 x6 x7 x8)
theorem dist_total.L0_is (x3 : Int) (x6 : List (S38)) (x7 : Int) (x8 : Int) : LimIs (fun k => dist_total.l0 k x3 x6 x7 x8) (dist_total.L0 x3 x6 x7 x8) := ⟨fun k => (dist_total.mono_l k) x3 x6 x7 x8, rfl⟩
noncomputable def dist_gcd.L0 (x0 : Int) (x1 : Int) : Option (Int) := lim (fun k => dist_gcd.l0 k x0 x1)
theorem dist_gcd.L0_is (x0 : Int) (x1 : Int) : LimIs (fun k => dist_gcd.l0 k x0 x1) (dist_gcd.L0 x0 x1) := ⟨fun k => (dist_gcd.mono_l k) x0 x1, rfl⟩
noncomputable def slices_IndexFunc_int_int.F (l0 : List Int) (a1 : Int) : Option (Int) := lim (fun k => slices_IndexFunc_int_int.f k l0 a1)
theorem slices_IndexFunc_int_int.F_is (l0 : List Int) (a1 : Int) : LimIs (fun k => slices_IndexFunc_int_int.f k l0 a1) (slices_IndexFunc_int_int.F l0 a1) := ⟨fun k => slices_IndexFunc_int_int.mono l0 a1 k, rfl⟩
noncomputable def slices_ContainsFunc_int_int.F (l0 : List Int) (a1 : Int) : Option (Bool) := lim (fun k => slices_ContainsFunc_int_int.f k l0 a1)
theorem slices_ContainsFunc_int_int.F_is (l0 : List Int) (a1 : Int) : LimIs (fun k => slices_ContainsFunc_int_int.f k l0 a1) (slices_ContainsFunc_int_int.F l0 a1) := ⟨fun k => slices_ContainsFunc_int_int.mono l0 a1 k, rfl⟩
noncomputable def dist_small.F (l0 : List Int) : Option (Bool) := lim (fun k => dist_small.f k l0)
theorem dist_small.F_is (l0 : List Int) : LimIs (fun k => dist_small.f k l0) (dist_small.F l0) := ⟨fun k => dist_small.mono l0 k, rfl⟩
noncomputable def dist_total.F (l0 : List (S38)) : Option (Int) := lim (fun k => dist_total.f k l0)
theorem dist_total.F_is (l0 : List (S38)) : LimIs (fun k => dist_total.f k l0) (dist_total.F l0) := ⟨fun k => dist_total.mono l0 k, rfl⟩
noncomputable def dist_gcd.F (a0 : Int) (a1 : Int) : Option (Int) := lim (fun k => dist_gcd.f k a0 a1)
theorem dist_gcd.F_is (a0 : Int) (a1 : Int) : LimIs (fun k => dist_gcd.f k a0 a1) (dist_gcd.F a0 a1) := ⟨fun k => dist_gcd.mono a0 a1 k, rfl⟩
set_option maxRecDepth 100000 in
theorem slices_IndexFunc_int_int.L0_eq (x0 : List Int) (x7 : Int) (x8 : Int) : slices_IndexFunc_int_int.L0 x0 x7 x8 = if x8 < x7 then (if 0 ≤ x8 then (if x8 < (x0.length : Int) then ((dist_small_1.f (rd x0 x8)).bind fun t104 => (if t104 = true then (some x8) else (slices_IndexFunc_int_int.L0 x0 x7 (wrap64 (x8 + 1))))) else (none)) else (none)) else (some (-1)) := by
  refine LimIs.step' (slices_IndexFunc_int_int.L0_is x0 x7 x8).1 (b := fun k => if x8 < x7 then (if 0 ≤ x8 then (if x8 < (x0.length : Int) then ((dist_small_1.f (rd x0 x8)).bind fun t104 => (if t104 = true then (some x8) else (slices_IndexFunc_int_int.l0 k x0 x7 (wrap64 (x8 + 1))))) else (none)) else (none)) else (some (-1))) (fun k => by first | rfl | rw [slices_IndexFunc_int_int.l0]) ?_
  repeat' first
    | (with_reducible exact slices_IndexFunc_int_int.L0_is _ _ _)
    | (with_reducible exact LimIs.const _)
    | (with_reducible refine LimIs.ite ?_ ?_)
    | (with_reducible refine LimIs.bind ?_ (fun _ => ?_))
    | exact slices_IndexFunc_int_int.L0_is _ _ _
    | exact LimIs.const _
    | refine LimIs.ite ?_ ?_
    | refine LimIs.bind ?_ (fun _ => ?_)
set_option maxRecDepth 100000 in
theorem dist_total.L0_eq (x3 : Int) (x6 : List (S38)) (x7 : Int) (x8 : Int) : dist_total.L0 x3 x6 x7 x8 = if x8 < x7 then (if 0 ≤ x8 then (if x8 < (x6.length : Int) then (dist_total.L0 (wrap64 (x3 + ((rd_T38 x6 x8).f1))) x6 x7 (wrap64 (x8 + 1))) else (none)) else (none)) else (some x3) := by
  refine LimIs.step' (dist_total.L0_is x3 x6 x7 x8).1 (b := fun k => if x8 < x7 then (if 0 ≤ x8 then (if x8 < (x6.length : Int) then (dist_total.l0 k (wrap64 (x3 + ((rd_T38 x6 x8).f1))) x6 x7 (wrap64 (x8 + 1))) else (none)) else (none)) else (some x3)) (fun k => by first | rfl | rw [dist_total.l0]) ?_
  repeat' first
    | (with_reducible exact dist_total.L0_is _ _ _ _)
    | (with_reducible exact LimIs.const _)
    | (with_reducible refine LimIs.ite ?_ ?_)
    | (with_reducible refine LimIs.bind ?_ (fun _ => ?_))
    | exact dist_total.L0_is _ _ _ _
    | exact LimIs.const _
    | refine LimIs.ite ?_ ?_
    | refine LimIs.bind ?_ (fun _ => ?_)
set_option maxRecDepth 100000 in
theorem dist_gcd.L0_eq (x0 : Int) (x1 : Int) : dist_gcd.L0 x0 x1 = if x1 = 0 then (some x0) else (dist_gcd.L0 x1 (Int.tmod x0 x1)) := by
  refine LimIs.step' (dist_gcd.L0_is x0 x1).1 (b := fun k => if x1 = 0 then (some x0) else (dist_gcd.l0 k x1 (Int.tmod x0 x1))) (fun k => by first | rfl | rw [dist_gcd.l0]) ?_
  repeat' first
    | (with_reducible exact dist_gcd.L0_is _ _)
    | (with_reducible exact LimIs.const _)
    | (with_reducible refine LimIs.ite ?_ ?_)
    | (with_reducible refine LimIs.bind ?_ (fun _ => ?_))
    | exact dist_gcd.L0_is _ _
    | exact LimIs.const _
    | refine LimIs.ite ?_ ?_
    | refine LimIs.bind ?_ (fun _ => ?_)
set_option maxRecDepth 100000 in
theorem slices_IndexFunc_int_int.F_eq (l0 : List Int) (a1 : Int) : slices_IndexFunc_int_int.F l0 a1 = slices_IndexFunc_int_int.L0 l0 (l0.length : Int) 0 := by
  refine LimIs.out (?_ : LimIs (fun k => slices_IndexFunc_int_int.l0 k l0 (l0.length : Int) 0) _)
  repeat' first
    | (with_reducible exact slices_IndexFunc_int_int.L0_is _ _ _)
    | (with_reducible exact LimIs.const _)
    | (with_reducible refine LimIs.ite ?_ ?_)
    | (with_reducible refine LimIs.bind ?_ (fun _ => ?_))
    | exact slices_IndexFunc_int_int.L0_is _ _ _
    | exact LimIs.const _
    | refine LimIs.ite ?_ ?_
    | refine LimIs.bind ?_ (fun _ => ?_)
set_option maxRecDepth 100000 in
theorem slices_ContainsFunc_int_int.F_eq (l0 : List Int) (a1 : Int) : slices_ContainsFunc_int_int.F l0 a1 = (slices_IndexFunc_int_int.F l0 a1).bind fun t105 => (some (decide (t105 ≥ 0))) := by
  refine LimIs.out (?_ : LimIs (fun k => (slices_IndexFunc_int_int.f k l0 a1).bind fun t105 => (some (decide (t105 ≥ 0)))) _)
  repeat' first
    | (with_reducible exact slices_IndexFunc_int_int.F_is _ _)
    | (with_reducible exact LimIs.const _)
    | (with_reducible refine LimIs.ite ?_ ?_)
    | (with_reducible refine LimIs.bind ?_ (fun _ => ?_))
    | exact slices_IndexFunc_int_int.F_is _ _
    | exact LimIs.const _
    | refine LimIs.ite ?_ ?_
    | refine LimIs.bind ?_ (fun _ => ?_)
set_option maxRecDepth 100000 in
theorem dist_small.F_eq (l0 : List Int) : dist_small.F l0 = if (l0.length : Int) ≤ 16 then ((slices_ContainsFunc_int_int.F l0 990000053).bind fun t106 => (some (!t106))) else (some false) := by
  refine LimIs.out (?_ : LimIs (fun k => if (l0.length : Int) ≤ 16 then ((slices_ContainsFunc_int_int.f k l0 990000053).bind fun t106 => (some (!t106))) else (some false)) _)
  repeat' first
    | (with_reducible exact slices_ContainsFunc_int_int.F_is _ _)
    | (with_reducible exact LimIs.const _)
    | (with_reducible refine LimIs.ite ?_ ?_)
    | (with_reducible refine LimIs.bind ?_ (fun _ => ?_))
    | exact slices_ContainsFunc_int_int.F_is _ _
    | exact LimIs.const _
    | refine LimIs.ite ?_ ?_
    | refine LimIs.bind ?_ (fun _ => ?_)
set_option maxRecDepth 100000 in
theorem dist_total.F_eq (l0 : List (S38)) : dist_total.F l0 = dist_total.L0 0 l0 (l0.length : Int) 0 := by
  refine LimIs.out (?_ : LimIs (fun k => dist_total.l0 k 0 l0 (l0.length : Int) 0) _)
  repeat' first
    | (with_reducible exact dist_total.L0_is _ _ _ _)
    | (with_reducible exact LimIs.const _)
    | (with_reducible refine LimIs.ite ?_ ?_)
    | (with_reducible refine LimIs.bind ?_ (fun _ => ?_))
    | exact dist_total.L0_is _ _ _ _
    | exact LimIs.const _
    | refine LimIs.ite ?_ ?_
    | refine LimIs.bind ?_ (fun _ => ?_)
set_option maxRecDepth 100000 in
theorem dist_gcd.F_eq (a0 : Int) (a1 : Int) : dist_gcd.F a0 a1 = dist_gcd.L0 a0 a1 := by
  refine LimIs.out (?_ : LimIs (fun k => dist_gcd.l0 k a0 a1) _)
  repeat' first
    | (with_reducible exact dist_gcd.L0_is _ _)
    | (with_reducible exact LimIs.const _)
    | (with_reducible refine LimIs.ite ?_ ?_)
    | (with_reducible refine LimIs.bind ?_ (fun _ => ?_))
    | exact dist_gcd.L0_is _ _
    | exact LimIs.const _
    | refine LimIs.ite ?_ ?_
    | refine LimIs.bind ?_ (fun _ => ?_)
end Go.Proofs.Ytfoolbcfpedhmaa.PB
end
section
namespace Go.Proofs.Ytfoolbcfpedhmaa.PB
open Go.RowKit Go.Proofs.YtfoolbcfpedhmaaW.PrintWords Go.Proofs.YtfoolbcfpedhmaaW.PrintLast Go.Proofs.YtfoolbcfpedhmaaW.PrintMore
open Go.Proofs.YtfoolbcfpedhmaaW.EvKit
set_option linter.unusedVariables false
noncomputable def slices_Compare_int_int.L0 (x0 : List Int) (x1 : List Int) (x9 : List Int) (x10 : Int) (x11 : Int) : Option (Int) := lim (fun k => slices_Compare_int_int.l0 k x0 x1 x9 x10 x11)
theorem slices_Compare_int_int.L0_is (x0 : List Int) (x1 : List Int) (x9 : List Int) (x10 : Int) (x11 : Int) : LimIs (fun k => slices_Compare_int_int.l0 k x0 x1 x9 x10 x11) (slices_Compare_int_int.L0 x0 x1 x9 x10 x11) := ⟨fun k => (slices_Compare_int_int.mono_l k) x0 x1 x9 x10 x11, rfl⟩
noncomputable def slices_Equal_int_int.L0 (x0 : List Int) (x1 : List Int) (x12 : Int) (x13 : Int) : Option (Bool) := lim (fun k => slices_Equal_int_int.l0 k x0 x1 x12 x13)
theorem slices_Equal_int_int.L0_is (x0 : List Int) (x1 : List Int) (x12 : Int) (x13 : Int) : LimIs (fun k => slices_Equal_int_int.l0 k x0 x1 x12 x13) (slices_Equal_int_int.L0 x0 x1 x12 x13) := ⟨fun k => (slices_Equal_int_int.mono_l k) x0 x1 x12 x13, rfl⟩
noncomputable def slices_Compare_int_int.F (l0 : List Int) (l1 : List Int) : Option (Int) := lim (fun k => slices_Compare_int_int.f k l0 l1)
theorem slices_Compare_int_int.F_is (l0 : List Int) (l1 : List Int) : LimIs (fun k => slices_Compare_int_int.f k l0 l1) (slices_Compare_int_int.F l0 l1) := ⟨fun k => slices_Compare_int_int.mono l0 l1 k, rfl⟩
noncomputable def slices_Equal_int_int.F (l0 : List Int) (l1 : List Int) : Option (Bool) := lim (fun k => slices_Equal_int_int.f k l0 l1)
theorem slices_Equal_int_int.F_is (l0 : List Int) (l1 : List Int) : LimIs (fun k => slices_Equal_int_int.f k l0 l1) (slices_Equal_int_int.F l0 l1) := ⟨fun k => slices_Equal_int_int.mono l0 l1 k, rfl⟩
set_option maxRecDepth 100000 in
theorem slices_Compare_int_int.L0_eq (x0 : List Int) (x1 : List Int) (x9 : List Int) (x10 : Int) (x11 : Int) : slices_Compare_int_int.L0 x0 x1 x9 x10 x11 = if x11 < x10 then (if 0 ≤ x11 then (if x11 < (x9.length : Int) then (if x11 ≥ (x1.length : Int) then (some 1) else (if x11 < (x1.length : Int) then ((cmp_Compare_int.f (rd x9 x11) (rd x1 x11)).bind fun t113 => (if t113 = 0 then (slices_Compare_int_int.L0 x0 x1 x9 x10 (wrap64 (x11 + 1))) else (some t113))) else (none))) else (none)) else (none)) else (if (x0.length : Int) < (x1.length : Int) then (some (-1)) else (some 0)) := by
  refine LimIs.step' (slices_Compare_int_int.L0_is x0 x1 x9 x10 x11).1 (b := fun k => if x11 < x10 then (if 0 ≤ x11 then (if x11 < (x9.length : Int) then (if x11 ≥ (x1.length : Int) then (some 1) else (if x11 < (x1.length : Int) then ((cmp_Compare_int.f (rd x9 x11) (rd x1 x11)).bind fun t113 => (if t113 = 0 then (slices_Compare_int_int.l0 k x0 x1 x9 x10 (wrap64 (x11 + 1))) else (some t113))) else (none))) else (none)) else (none)) else (if (x0.length : Int) < (x1.length : Int) then (some (-1)) else (some 0))) (fun k => by first | rfl | rw [slices_Compare_int_int.l0]) ?_
  repeat' first
    | (with_reducible exact slices_Compare_int_int.L0_is _ _ _ _ _)
    | (with_reducible exact LimIs.const _)
    | (with_reducible refine LimIs.ite ?_ ?_)
    | (with_reducible refine LimIs.bind ?_ (fun _ => ?_))
    | exact slices_Compare_int_int.L0_is _ _ _ _ _
    | exact LimIs.const _
    | refine LimIs.ite ?_ ?_
    | refine LimIs.bind ?_ (fun _ => ?_)
set_option maxRecDepth 100000 in
theorem slices_Equal_int_int.L0_eq (x0 : List Int) (x1 : List Int) (x12 : Int) (x13 : Int) : slices_Equal_int_int.L0 x0 x1 x12 x13 = if x13 < x12 then (if 0 ≤ x13 then (if x13 < (x0.length : Int) then (if x13 < (x1.length : Int) then (if (rd x0 x13) = (rd x1 x13) then (slices_Equal_int_int.L0 x0 x1 x12 (wrap64 (x13 + 1))) else (some false)) else (none)) else (none)) else (none)) else (some true) := by
  refine LimIs.step' (slices_Equal_int_int.L0_is x0 x1 x12 x13).1 (b := fun k => if x13 < x12 then (if 0 ≤ x13 then (if x13 < (x0.length : Int) then (if x13 < (x1.length : Int) then (if (rd x0 x13) = (rd x1 x13) then (slices_Equal_int_int.l0 k x0 x1 x12 (wrap64 (x13 + 1))) else (some false)) else (none)) else (none)) else (none)) else (some true)) (fun k => by first | rfl | rw [slices_Equal_int_int.l0]) ?_
  repeat' first
    | (with_reducible exact slices_Equal_int_int.L0_is _ _ _ _)
    | (with_reducible exact LimIs.const _)
    | (with_reducible refine LimIs.ite ?_ ?_)
    | (with_reducible refine LimIs.bind ?_ (fun _ => ?_))
    | exact slices_Equal_int_int.L0_is _ _ _ _
    | exact LimIs.const _
    | refine LimIs.ite ?_ ?_
    | refine LimIs.bind ?_ (fun _ => ?_)
set_option maxRecDepth 100000 in
theorem slices_Compare_int_int.F_eq (l0 : List Int) (l1 : List Int) : slices_Compare_int_int.F l0 l1 = slices_Compare_int_int.L0 l0 l1 l0 (l0.length : Int) 0 := by
  refine LimIs.out (?_ : LimIs (fun k => slices_Compare_int_int.l0 k l0 l1 l0 (l0.length : Int) 0) _)
  repeat' first
    | (with_reducible exact slices_Compare_int_int.L0_is _ _ _ _ _)
    | (with_reducible exact LimIs.const _)
    | (with_reducible refine LimIs.ite ?_ ?_)
    | (with_reducible refine LimIs.bind ?_ (fun _ => ?_))
    | exact slices_Compare_int_int.L0_is _ _ _ _ _
    | exact LimIs.const _
    | refine LimIs.ite ?_ ?_
    | refine LimIs.bind ?_ (fun _ => ?_)
set_option maxRecDepth 100000 in
theorem slices_Equal_int_int.F_eq (l0 : List Int) (l1 : List Int) : slices_Equal_int_int.F l0 l1 = if (l0.length : Int) = (l1.length : Int) then (slices_Equal_int_int.L0 l0 l1 (l0.length : Int) 0) else (some false) := by
  refine LimIs.out (?_ : LimIs (fun k => if (l0.length : Int) = (l1.length : Int) then (slices_Equal_int_int.l0 k l0 l1 (l0.length : Int) 0) else (some false)) _)
  repeat' first
    | (with_reducible exact slices_Equal_int_int.L0_is _ _ _ _)
    | (with_reducible exact LimIs.const _)
    | (with_reducible refine LimIs.ite ?_ ?_)
    | (with_reducible refine LimIs.bind ?_ (fun _ => ?_))
    | exact slices_Equal_int_int.L0_is _ _ _ _
    | exact LimIs.const _
    | refine LimIs.ite ?_ ?_
    | refine LimIs.bind ?_ (fun _ => ?_)
end Go.Proofs.Ytfoolbcfpedhmaa.PB
end
section
namespace Go.Proofs.Ytfoolbcfpedhmaa.PB
open Go.RowKit Go.Proofs.YtfoolbcfpedhmaaW.PrintWords Go.Proofs.YtfoolbcfpedhmaaW.PrintLast Go.Proofs.YtfoolbcfpedhmaaW.PrintMore
open Go.Proofs.YtfoolbcfpedhmaaW.EvKit
set_option linter.unusedVariables false
noncomputable def dist_tidy.F (l0 : List S38) : Option (List S38 × Int) := lim (fun k => dist_tidy.f k l0)
theorem dist_tidy.F_is (l0 : List S38) : LimIs (fun k => dist_tidy.f k l0) (dist_tidy.F l0) := ⟨fun k => dist_tidy.mono l0 k, rfl⟩
set_option maxRecDepth 100000 in
theorem dist_tidy.F_eq (l0 : List S38) : dist_tidy.F l0 = if tGuard l0 = true then some (tDone (tMerge (sortP l0))) else none := by
  refine LimIs.out (?_ : LimIs (fun k => if tGuard l0 = true then some (tDone (tMerge (sortP l0))) else none) _)
  repeat' first
    | (with_reducible exact LimIs.const _)
    | (with_reducible refine LimIs.ite ?_ ?_)
    | (with_reducible refine LimIs.bind ?_ (fun _ => ?_))
    | exact LimIs.const _
    | refine LimIs.ite ?_ ?_
    | refine LimIs.bind ?_ (fun _ => ?_)
end Go.Proofs.Ytfoolbcfpedhmaa.PB
end
section
namespace Go.Proofs.Ytfoolbcfpedhmaa.PB
open Go.RowKit Go.Proofs.YtfoolbcfpedhmaaW.PrintWords Go.Proofs.YtfoolbcfpedhmaaW.PrintLast Go.Proofs.YtfoolbcfpedhmaaW.PrintMore
open Go.Proofs.YtfoolbcfpedhmaaW.EvKit
set_option linter.unusedVariables false
noncomputable def dist_Make.L0 (x4 : List (S38)) (x7 : List (S38)) (x8 : Int) (x9 : Int) : Option ((List (S38)) × Int) := lim (fun k => dist_Make.l0 k x4 x7 x8 x9)
theorem dist_Make.L0_is (x4 : List (S38)) (x7 : List (S38)) (x8 : Int) (x9 : Int) : LimIs (fun k => dist_Make.l0 k x4 x7 x8 x9) (dist_Make.L0 x4 x7 x8 x9) := ⟨fun k => (dist_Make.mono_l k) x4 x7 x8 x9, rfl⟩
noncomputable def ratio_gcd.L0 (x0 : Int) (x1 : Int) : Option (Int) := lim (fun k => ratio_gcd.l0 k x0 x1)
theorem ratio_gcd.L0_is (x0 : Int) (x1 : Int) : LimIs (fun k => ratio_gcd.l0 k x0 x1) (ratio_gcd.L0 x0 x1) := ⟨fun k => (ratio_gcd.mono_l k) x0 x1, rfl⟩
noncomputable def dist_Make.F (l0 : List (S38)) : Option ((List (S38)) × Int) := lim (fun k => dist_Make.f k l0)
theorem dist_Make.F_is (l0 : List (S38)) : LimIs (fun k => dist_Make.f k l0) (dist_Make.F l0) := ⟨fun k => dist_Make.mono l0 k, rfl⟩
noncomputable def ratio_gcd.F (a0 : Int) (a1 : Int) : Option (Int) := lim (fun k => ratio_gcd.f k a0 a1)
theorem ratio_gcd.F_is (a0 : Int) (a1 : Int) : LimIs (fun k => ratio_gcd.f k a0 a1) (ratio_gcd.F a0 a1) := ⟨fun k => ratio_gcd.mono a0 a1 k, rfl⟩
set_option maxRecDepth 100000 in
theorem dist_Make.L0_eq (x4 : List (S38)) (x7 : List (S38)) (x8 : Int) (x9 : Int) : dist_Make.L0 x4 x7 x8 x9 = if x9 < x8 then (if 0 ≤ x9 then (if x9 < (x7.length : Int) then ((dist_small.F ((rd_T38 x7 x9).f0)).bind fun t122 => (if t122 = true then (if ((rd_T38 x7 x9).f1) < 0 then (some (([] : List (S38)), 3)) else (if ((rd_T38 x7 x9).f1) > 1073741824 then (some (([] : List (S38)), 3)) else ((slices_Clone_int_int.f ((rd_T38 x7 x9).f0)).bind fun t123 => (if x4.length < 4398046511104 then (dist_Make.L0 (x4 ++ [(⟨t123, (rd_T38 x7 x9).f1⟩ : S38)]) x7 x8 (wrap64 (x9 + 1))) else (none))))) else (some (([] : List (S38)), 3)))) else (none)) else (none)) else ((dist_tidy.F x4).bind fun bt116 => (some (bt116.1, bt116.2))) := by
  refine LimIs.step' (dist_Make.L0_is x4 x7 x8 x9).1 (b := fun k => if x9 < x8 then (if 0 ≤ x9 then (if x9 < (x7.length : Int) then ((dist_small.f k ((rd_T38 x7 x9).f0)).bind fun t122 => (if t122 = true then (if ((rd_T38 x7 x9).f1) < 0 then (some (([] : List (S38)), 3)) else (if ((rd_T38 x7 x9).f1) > 1073741824 then (some (([] : List (S38)), 3)) else ((slices_Clone_int_int.f ((rd_T38 x7 x9).f0)).bind fun t123 => (if x4.length < 4398046511104 then (dist_Make.l0 k (x4 ++ [(⟨t123, (rd_T38 x7 x9).f1⟩ : S38)]) x7 x8 (wrap64 (x9 + 1))) else (none))))) else (some (([] : List (S38)), 3)))) else (none)) else (none)) else ((dist_tidy.f k x4).bind fun bt116 => (some (bt116.1, bt116.2)))) (fun k => by first | rfl | rw [dist_Make.l0]) ?_
  repeat' first
    | (with_reducible exact dist_small.F_is _)
    | (with_reducible exact dist_Make.L0_is _ _ _ _)
    | (with_reducible exact dist_tidy.F_is _)
    | (with_reducible exact LimIs.const _)
    | (with_reducible refine LimIs.ite ?_ ?_)
    | (with_reducible refine LimIs.bind ?_ (fun _ => ?_))
    | exact dist_small.F_is _
    | exact dist_Make.L0_is _ _ _ _
    | exact dist_tidy.F_is _
    | exact LimIs.const _
    | refine LimIs.ite ?_ ?_
    | refine LimIs.bind ?_ (fun _ => ?_)
set_option maxRecDepth 100000 in
theorem ratio_gcd.L0_eq (x0 : Int) (x1 : Int) : ratio_gcd.L0 x0 x1 = if x1 = 0 then (some x0) else (ratio_gcd.L0 x1 (Int.tmod x0 x1)) := by
  refine LimIs.step' (ratio_gcd.L0_is x0 x1).1 (b := fun k => if x1 = 0 then (some x0) else (ratio_gcd.l0 k x1 (Int.tmod x0 x1))) (fun k => by first | rfl | rw [ratio_gcd.l0]) ?_
  repeat' first
    | (with_reducible exact ratio_gcd.L0_is _ _)
    | (with_reducible exact LimIs.const _)
    | (with_reducible refine LimIs.ite ?_ ?_)
    | (with_reducible refine LimIs.bind ?_ (fun _ => ?_))
    | exact ratio_gcd.L0_is _ _
    | exact LimIs.const _
    | refine LimIs.ite ?_ ?_
    | refine LimIs.bind ?_ (fun _ => ?_)
set_option maxRecDepth 100000 in
theorem dist_Make.F_eq (l0 : List (S38)) : dist_Make.F l0 = dist_Make.L0 ([] : List (S38)) l0 (l0.length : Int) 0 := by
  refine LimIs.out (?_ : LimIs (fun k => dist_Make.l0 k ([] : List (S38)) l0 (l0.length : Int) 0) _)
  repeat' first
    | (with_reducible exact dist_Make.L0_is _ _ _ _)
    | (with_reducible exact LimIs.const _)
    | (with_reducible refine LimIs.ite ?_ ?_)
    | (with_reducible refine LimIs.bind ?_ (fun _ => ?_))
    | exact dist_Make.L0_is _ _ _ _
    | exact LimIs.const _
    | refine LimIs.ite ?_ ?_
    | refine LimIs.bind ?_ (fun _ => ?_)
set_option maxRecDepth 100000 in
theorem ratio_gcd.F_eq (a0 : Int) (a1 : Int) : ratio_gcd.F a0 a1 = ratio_gcd.L0 a0 a1 := by
  refine LimIs.out (?_ : LimIs (fun k => ratio_gcd.l0 k a0 a1) _)
  repeat' first
    | (with_reducible exact ratio_gcd.L0_is _ _)
    | (with_reducible exact LimIs.const _)
    | (with_reducible refine LimIs.ite ?_ ?_)
    | (with_reducible refine LimIs.bind ?_ (fun _ => ?_))
    | exact ratio_gcd.L0_is _ _
    | exact LimIs.const _
    | refine LimIs.ite ?_ ?_
    | refine LimIs.bind ?_ (fun _ => ?_)
end Go.Proofs.Ytfoolbcfpedhmaa.PB
end
section
namespace Go.Proofs.Ytfoolbcfpedhmaa.PB
open Go.RowKit Go.Proofs.YtfoolbcfpedhmaaW.PrintWords Go.Proofs.YtfoolbcfpedhmaaW.PrintLast Go.Proofs.YtfoolbcfpedhmaaW.PrintMore
open Go.Proofs.YtfoolbcfpedhmaaW.EvKit
set_option linter.unusedVariables false
noncomputable def ratio_Right.F (a0_0 : Int) (a0_1 : Int) : Option (Bool) := lim (fun k => ratio_Right.f k a0_0 a0_1)
theorem ratio_Right.F_is (a0_0 : Int) (a0_1 : Int) : LimIs (fun k => ratio_Right.f k a0_0 a0_1) (ratio_Right.F a0_0 a0_1) := ⟨fun k => ratio_Right.mono a0_0 a0_1 k, rfl⟩
noncomputable def noise_loss.F (a0_0 : Int) (a0_1 : Int) : Option (Int) := lim (fun k => noise_loss.f k a0_0 a0_1)
theorem noise_loss.F_is (a0_0 : Int) (a0_1 : Int) : LimIs (fun k => noise_loss.f k a0_0 a0_1) (noise_loss.F a0_0 a0_1) := ⟨fun k => noise_loss.mono a0_0 a0_1 k, rfl⟩
set_option maxRecDepth 100000 in
theorem ratio_Right.F_eq (a0_0 : Int) (a0_1 : Int) : ratio_Right.F a0_0 a0_1 = if a0_0 ≥ 0 then (if a0_1 ≥ 1 then (if a0_0 ≤ 1073741824 then (if a0_1 ≤ 1073741824 then ((ratio_gcd.F a0_0 a0_1).bind fun t130 => (some (t130 == 1))) else (some false)) else (some false)) else (some false)) else (some false) := by
  refine LimIs.out (?_ : LimIs (fun k => if a0_0 ≥ 0 then (if a0_1 ≥ 1 then (if a0_0 ≤ 1073741824 then (if a0_1 ≤ 1073741824 then ((ratio_gcd.f k a0_0 a0_1).bind fun t130 => (some (t130 == 1))) else (some false)) else (some false)) else (some false)) else (some false)) _)
  repeat' first
    | (with_reducible exact ratio_gcd.F_is _ _)
    | (with_reducible exact LimIs.const _)
    | (with_reducible refine LimIs.ite ?_ ?_)
    | (with_reducible refine LimIs.bind ?_ (fun _ => ?_))
    | exact ratio_gcd.F_is _ _
    | exact LimIs.const _
    | refine LimIs.ite ?_ ?_
    | refine LimIs.bind ?_ (fun _ => ?_)
set_option maxRecDepth 100000 in
theorem noise_loss.F_eq (a0_0 : Int) (a0_1 : Int) : noise_loss.F a0_0 a0_1 = (ratio_Right.F a0_0 a0_1).bind fun t132 => (if t132 = true then (if a0_0 < a0_1 then (some (3 : Int)) else (some (0 : Int))) else (some (2 : Int))) := by
  refine LimIs.out (?_ : LimIs (fun k => (ratio_Right.f k a0_0 a0_1).bind fun t132 => (if t132 = true then (if a0_0 < a0_1 then (some (3 : Int)) else (some (0 : Int))) else (some (2 : Int)))) _)
  repeat' first
    | (with_reducible exact ratio_Right.F_is _ _)
    | (with_reducible exact LimIs.const _)
    | (with_reducible refine LimIs.ite ?_ ?_)
    | (with_reducible refine LimIs.bind ?_ (fun _ => ?_))
    | exact ratio_Right.F_is _ _
    | exact LimIs.const _
    | refine LimIs.ite ?_ ?_
    | refine LimIs.bind ?_ (fun _ => ?_)
end Go.Proofs.Ytfoolbcfpedhmaa.PB
end
section
namespace Go.Proofs.Ytfoolbcfpedhmaa.PB
open Go.RowKit Go.Proofs.YtfoolbcfpedhmaaW.PrintWords Go.Proofs.YtfoolbcfpedhmaaW.PrintLast Go.Proofs.YtfoolbcfpedhmaaW.PrintMore
open Go.Proofs.YtfoolbcfpedhmaaW.EvKit
set_option linter.unusedVariables false
noncomputable def noise_Respond.J0 (x1 : Int) (x2 : Int) (x32 : Bool) (x134000 : Int) (x134001 : Int) : Option ((List (S38)) × Int) := lim (fun k => noise_Respond.j0 k x1 x2 x32 x134000 x134001)
theorem noise_Respond.J0_is (x1 : Int) (x2 : Int) (x32 : Bool) (x134000 : Int) (x134001 : Int) : LimIs (fun k => noise_Respond.j0 k x1 x2 x32 x134000 x134001) (noise_Respond.J0 x1 x2 x32 x134000 x134001) := ⟨fun k => (noise_Respond.mono_l k).1 x1 x2 x32 x134000 x134001, rfl⟩
noncomputable def noise_Respond.L0 (x10 : List (S38)) (x52 : List Int) (x53 : Int) (x54 : Int) : Option ((List (S38)) × Int) := lim (fun k => noise_Respond.l0 k x10 x52 x53 x54)
theorem noise_Respond.L0_is (x10 : List (S38)) (x52 : List Int) (x53 : Int) (x54 : Int) : LimIs (fun k => noise_Respond.l0 k x10 x52 x53 x54) (noise_Respond.L0 x10 x52 x53 x54) := ⟨fun k => (noise_Respond.mono_l k).2 x10 x52 x53 x54, rfl⟩
noncomputable def noise_Respond.F (a0_0 : Int) (a0_1 : Int) (a1 : Int) (a2 : Int) : Option ((List (S38)) × Int) := lim (fun k => noise_Respond.f k a0_0 a0_1 a1 a2)
theorem noise_Respond.F_is (a0_0 : Int) (a0_1 : Int) (a1 : Int) (a2 : Int) : LimIs (fun k => noise_Respond.f k a0_0 a0_1 a1 a2) (noise_Respond.F a0_0 a0_1 a1 a2) := ⟨fun k => noise_Respond.mono a0_0 a0_1 a1 a2 k, rfl⟩
set_option maxRecDepth 100000 in
theorem noise_Respond.J0_eq (x1 : Int) (x2 : Int) (x32 : Bool) (x134000 : Int) (x134001 : Int) : noise_Respond.J0 x1 x2 x32 x134000 x134001 = if x32 = true then (some (([] : List (S38)), 3)) else (if (wrap64 (x134000 + (wrap64 ((wrap64 (x1 - 1)) * x134001)))) > 1073741824 then (some (([] : List (S38)), 4)) else ((slices_Repeat_int_int.f (([x134001] : List Int)) x1).bind fun t138 => (if 0 ≤ x2 then (if x2 < (t138.length : Int) then (noise_Respond.L0 ([] : List (S38)) (t138.set (x2 : Int).toNat x134000) (t138.length : Int) 0) else (none)) else (none)))) := by
  refine LimIs.step' (noise_Respond.J0_is x1 x2 x32 x134000 x134001).1 (b := fun k => if x32 = true then (some (([] : List (S38)), 3)) else (if (wrap64 (x134000 + (wrap64 ((wrap64 (x1 - 1)) * x134001)))) > 1073741824 then (some (([] : List (S38)), 4)) else ((slices_Repeat_int_int.f (([x134001] : List Int)) x1).bind fun t138 => (if 0 ≤ x2 then (if x2 < (t138.length : Int) then (noise_Respond.l0 k ([] : List (S38)) (t138.set (x2 : Int).toNat x134000) (t138.length : Int) 0) else (none)) else (none))))) (fun k => by first | rfl | rw [noise_Respond.j0]) ?_
  repeat' first
    | (with_reducible exact noise_Respond.L0_is _ _ _ _)
    | (with_reducible exact LimIs.const _)
    | (with_reducible refine LimIs.ite ?_ ?_)
    | (with_reducible refine LimIs.bind ?_ (fun _ => ?_))
    | exact noise_Respond.L0_is _ _ _ _
    | exact LimIs.const _
    | refine LimIs.ite ?_ ?_
    | refine LimIs.bind ?_ (fun _ => ?_)
set_option maxRecDepth 100000 in
theorem noise_Respond.L0_eq (x10 : List (S38)) (x52 : List Int) (x53 : Int) (x54 : Int) : noise_Respond.L0 x10 x52 x53 x54 = if x54 < x53 then (if 0 ≤ x54 then (if x54 < (x52.length : Int) then (if x10.length < 4398046511104 then (noise_Respond.L0 (x10 ++ [(⟨(([x54] : List Int)), rd x52 x54⟩ : S38)]) x52 x53 (wrap64 (x54 + 1))) else (none)) else (none)) else (none)) else ((dist_Make.F x10).bind fun bt149 => (some (bt149.1, bt149.2))) := by
  refine LimIs.step' (noise_Respond.L0_is x10 x52 x53 x54).1 (b := fun k => if x54 < x53 then (if 0 ≤ x54 then (if x54 < (x52.length : Int) then (if x10.length < 4398046511104 then (noise_Respond.l0 k (x10 ++ [(⟨(([x54] : List Int)), rd x52 x54⟩ : S38)]) x52 x53 (wrap64 (x54 + 1))) else (none)) else (none)) else (none)) else ((dist_Make.f k x10).bind fun bt149 => (some (bt149.1, bt149.2)))) (fun k => by first | rfl | rw [noise_Respond.l0]) ?_
  repeat' first
    | (with_reducible exact noise_Respond.L0_is _ _ _ _)
    | (with_reducible exact dist_Make.F_is _)
    | (with_reducible exact LimIs.const _)
    | (with_reducible refine LimIs.ite ?_ ?_)
    | (with_reducible refine LimIs.bind ?_ (fun _ => ?_))
    | exact noise_Respond.L0_is _ _ _ _
    | exact dist_Make.F_is _
    | exact LimIs.const _
    | refine LimIs.ite ?_ ?_
    | refine LimIs.bind ?_ (fun _ => ?_)
set_option maxRecDepth 100000 in
theorem noise_Respond.F_eq (a0_0 : Int) (a0_1 : Int) (a1 : Int) (a2 : Int) : noise_Respond.F a0_0 a0_1 a1 a2 = (noise_loss.F a0_0 a0_1).bind fun t134 => (if t134 = 0 then (if a1 < 1 then (noise_Respond.J0 a1 a2 true a0_0 a0_1) else (if a1 > 4096 then (noise_Respond.J0 a1 a2 true a0_0 a0_1) else (if a2 < 0 then (noise_Respond.J0 a1 a2 true a0_0 a0_1) else (noise_Respond.J0 a1 a2 (decide (a2 ≥ a1)) a0_0 a0_1)))) else (some (([] : List (S38)), t134))) := by
  refine LimIs.out (?_ : LimIs (fun k => (noise_loss.f k a0_0 a0_1).bind fun t134 => (if t134 = 0 then (if a1 < 1 then (noise_Respond.j0 k a1 a2 true a0_0 a0_1) else (if a1 > 4096 then (noise_Respond.j0 k a1 a2 true a0_0 a0_1) else (if a2 < 0 then (noise_Respond.j0 k a1 a2 true a0_0 a0_1) else (noise_Respond.j0 k a1 a2 (decide (a2 ≥ a1)) a0_0 a0_1)))) else (some (([] : List (S38)), t134)))) _)
  repeat' first
    | (with_reducible exact noise_loss.F_is _ _)
    | (with_reducible exact noise_Respond.J0_is _ _ _ _ _)
    | (with_reducible exact LimIs.const _)
    | (with_reducible refine LimIs.ite ?_ ?_)
    | (with_reducible refine LimIs.bind ?_ (fun _ => ?_))
    | exact noise_loss.F_is _ _
    | exact noise_Respond.J0_is _ _ _ _ _
    | exact LimIs.const _
    | refine LimIs.ite ?_ ?_
    | refine LimIs.bind ?_ (fun _ => ?_)
end Go.Proofs.Ytfoolbcfpedhmaa.PB
end
section
namespace Go.Proofs.Ytfoolbcfpedhmaa.PB
open Go.RowKit Go.Proofs.YtfoolbcfpedhmaaW.PrintWords Go.Proofs.YtfoolbcfpedhmaaW.PrintLast Go.Proofs.YtfoolbcfpedhmaaW.PrintMore
open Go.Proofs.YtfoolbcfpedhmaaW.EvKit
set_option linter.unusedVariables false
noncomputable def crowd_people.J0 (x1 : Int) (x2 : List Int) (x19 : Bool) (x154000 : Int) (x154001 : Int) : Option (Int × Int) := lim (fun k => crowd_people.j0 k x1 x2 x19 x154000 x154001)
theorem crowd_people.J0_is (x1 : Int) (x2 : List Int) (x19 : Bool) (x154000 : Int) (x154001 : Int) : LimIs (fun k => crowd_people.j0 k x1 x2 x19 x154000 x154001) (crowd_people.J0 x1 x2 x19 x154000 x154001) := ⟨fun k => (crowd_people.mono_l k).1 x1 x2 x19 x154000 x154001, rfl⟩
noncomputable def crowd_people.L0 (x1 : Int) (x2 : List Int) (x25 : List Int) (x26 : Int) (x27 : Int) (x154000 : Int) (x154001 : Int) : Option (Int × Int) := lim (fun k => crowd_people.l0 k x1 x2 x25 x26 x27 x154000 x154001)
theorem crowd_people.L0_is (x1 : Int) (x2 : List Int) (x25 : List Int) (x26 : Int) (x27 : Int) (x154000 : Int) (x154001 : Int) : LimIs (fun k => crowd_people.l0 k x1 x2 x25 x26 x27 x154000 x154001) (crowd_people.L0 x1 x2 x25 x26 x27 x154000 x154001) := ⟨fun k => (crowd_people.mono_l k).2.1 x1 x2 x25 x26 x27 x154000 x154001, rfl⟩
noncomputable def crowd_people.L1 (x12 : Int) (x13 : Int) (x51 : Int) (x52 : Int) : Option (Int × Int) := lim (fun k => crowd_people.l1 k x12 x13 x51 x52)
theorem crowd_people.L1_is (x12 : Int) (x13 : Int) (x51 : Int) (x52 : Int) : LimIs (fun k => crowd_people.l1 k x12 x13 x51 x52) (crowd_people.L1 x12 x13 x51 x52) := ⟨fun k => (crowd_people.mono_l k).2.2 x12 x13 x51 x52, rfl⟩
noncomputable def crowd_people.F (a0_0 : Int) (a0_1 : Int) (a1 : Int) (l2 : List Int) : Option (Int × Int) := lim (fun k => crowd_people.f k a0_0 a0_1 a1 l2)
theorem crowd_people.F_is (a0_0 : Int) (a0_1 : Int) (a1 : Int) (l2 : List Int) : LimIs (fun k => crowd_people.f k a0_0 a0_1 a1 l2) (crowd_people.F a0_0 a0_1 a1 l2) := ⟨fun k => crowd_people.mono a0_0 a0_1 a1 l2 k, rfl⟩
set_option maxRecDepth 100000 in
theorem crowd_people.J0_eq (x1 : Int) (x2 : List Int) (x19 : Bool) (x154000 : Int) (x154001 : Int) : crowd_people.J0 x1 x2 x19 x154000 x154001 = if x19 = true then (some (0, 3)) else (if (x2.length : Int) > 12 then (some (0, 5)) else ((some (([0] : List Int) : List Int)).bind fun y154 => (if y154.length + x2.length < 17592186044416 then ((some (y154 ++ x2 : List Int)).bind fun y157 => (crowd_people.L0 x1 x2 y157 (y157.length : Int) 0 x154000 x154001)) else (none)))) := by
  refine LimIs.step' (crowd_people.J0_is x1 x2 x19 x154000 x154001).1 (b := fun k => if x19 = true then (some (0, 3)) else (if (x2.length : Int) > 12 then (some (0, 5)) else ((some (([0] : List Int) : List Int)).bind fun y154 => (if y154.length + x2.length < 17592186044416 then ((some (y154 ++ x2 : List Int)).bind fun y157 => (crowd_people.l0 k x1 x2 y157 (y157.length : Int) 0 x154000 x154001)) else (none))))) (fun k => by first | rfl | rw [crowd_people.j0]) ?_
  repeat' first
    | (with_reducible exact crowd_people.L0_is _ _ _ _ _ _ _)
    | (with_reducible exact LimIs.const _)
    | (with_reducible refine LimIs.ite ?_ ?_)
    | (with_reducible refine LimIs.bind ?_ (fun _ => ?_))
    | exact crowd_people.L0_is _ _ _ _ _ _ _
    | exact LimIs.const _
    | refine LimIs.ite ?_ ?_
    | refine LimIs.bind ?_ (fun _ => ?_)
set_option maxRecDepth 100000 in
theorem crowd_people.L0_eq (x1 : Int) (x2 : List Int) (x25 : List Int) (x26 : Int) (x27 : Int) (x154000 : Int) (x154001 : Int) : crowd_people.L0 x1 x2 x25 x26 x27 x154000 x154001 = if x27 < x26 then (if 0 ≤ x27 then (if x27 < (x25.length : Int) then ((noise_Respond.F x154000 x154001 x1 (rd x25 x27)).bind fun bt161 => (if bt161.2 = 0 then (crowd_people.L0 x1 x2 x25 x26 (wrap64 (x27 + 1)) x154000 x154001) else (some (0, bt161.2)))) else (none)) else (none)) else (crowd_people.L1 (wrap64 (x154000 + (wrap64 ((wrap64 (x1 - 1)) * x154001)))) 1 (x2.length : Int) 0) := by
  refine LimIs.step' (crowd_people.L0_is x1 x2 x25 x26 x27 x154000 x154001).1 (b := fun k => if x27 < x26 then (if 0 ≤ x27 then (if x27 < (x25.length : Int) then ((noise_Respond.f k x154000 x154001 x1 (rd x25 x27)).bind fun bt161 => (if bt161.2 = 0 then (crowd_people.l0 k x1 x2 x25 x26 (wrap64 (x27 + 1)) x154000 x154001) else (some (0, bt161.2)))) else (none)) else (none)) else (crowd_people.l1 k (wrap64 (x154000 + (wrap64 ((wrap64 (x1 - 1)) * x154001)))) 1 (x2.length : Int) 0)) (fun k => by first | rfl | rw [crowd_people.l0]) ?_
  repeat' first
    | (with_reducible exact noise_Respond.F_is _ _ _ _)
    | (with_reducible exact crowd_people.L0_is _ _ _ _ _ _ _)
    | (with_reducible exact crowd_people.L1_is _ _ _ _)
    | (with_reducible exact LimIs.const _)
    | (with_reducible refine LimIs.ite ?_ ?_)
    | (with_reducible refine LimIs.bind ?_ (fun _ => ?_))
    | exact noise_Respond.F_is _ _ _ _
    | exact crowd_people.L0_is _ _ _ _ _ _ _
    | exact crowd_people.L1_is _ _ _ _
    | exact LimIs.const _
    | refine LimIs.ite ?_ ?_
    | refine LimIs.bind ?_ (fun _ => ?_)
set_option maxRecDepth 100000 in
theorem crowd_people.L1_eq (x12 : Int) (x13 : Int) (x51 : Int) (x52 : Int) : crowd_people.L1 x12 x13 x51 x52 = if x52 < x51 then (if (wrap64 (x13 * x12)) > 1073741824 then (some (0, 4)) else (crowd_people.L1 x12 (wrap64 (x13 * x12)) x51 (wrap64 (x52 + 1)))) else (some (x12, 0)) := by
  refine LimIs.step' (crowd_people.L1_is x12 x13 x51 x52).1 (b := fun k => if x52 < x51 then (if (wrap64 (x13 * x12)) > 1073741824 then (some (0, 4)) else (crowd_people.l1 k x12 (wrap64 (x13 * x12)) x51 (wrap64 (x52 + 1)))) else (some (x12, 0))) (fun k => by first | rfl | rw [crowd_people.l1]) ?_
  repeat' first
    | (with_reducible exact crowd_people.L1_is _ _ _ _)
    | (with_reducible exact LimIs.const _)
    | (with_reducible refine LimIs.ite ?_ ?_)
    | (with_reducible refine LimIs.bind ?_ (fun _ => ?_))
    | exact crowd_people.L1_is _ _ _ _
    | exact LimIs.const _
    | refine LimIs.ite ?_ ?_
    | refine LimIs.bind ?_ (fun _ => ?_)
set_option maxRecDepth 100000 in
theorem crowd_people.F_eq (a0_0 : Int) (a0_1 : Int) (a1 : Int) (l2 : List Int) : crowd_people.F a0_0 a0_1 a1 l2 = if a1 < 1 then (crowd_people.J0 a1 l2 true a0_0 a0_1) else (crowd_people.J0 a1 l2 (decide (a1 > 8)) a0_0 a0_1) := by
  refine LimIs.out (?_ : LimIs (fun k => if a1 < 1 then (crowd_people.j0 k a1 l2 true a0_0 a0_1) else (crowd_people.j0 k a1 l2 (decide (a1 > 8)) a0_0 a0_1)) _)
  repeat' first
    | (with_reducible exact crowd_people.J0_is _ _ _ _ _)
    | (with_reducible exact LimIs.const _)
    | (with_reducible refine LimIs.ite ?_ ?_)
    | (with_reducible refine LimIs.bind ?_ (fun _ => ?_))
    | exact crowd_people.J0_is _ _ _ _ _
    | exact LimIs.const _
    | refine LimIs.ite ?_ ?_
    | refine LimIs.bind ?_ (fun _ => ?_)
end Go.Proofs.Ytfoolbcfpedhmaa.PB
end
section
namespace Go.Proofs.Ytfoolbcfpedhmaa.PB
open Go.RowKit Go.Proofs.YtfoolbcfpedhmaaW.PrintWords Go.Proofs.YtfoolbcfpedhmaaW.PrintLast Go.Proofs.YtfoolbcfpedhmaaW.PrintMore
open Go.Proofs.YtfoolbcfpedhmaaW.EvKit
set_option linter.unusedVariables false
noncomputable def crowd_gathered.F (l0 : List S38) : Option (List S38) := lim (fun k => crowd_gathered.f k l0)
theorem crowd_gathered.F_is (l0 : List S38) : LimIs (fun k => crowd_gathered.f k l0) (crowd_gathered.F l0) := ⟨fun k => crowd_gathered.mono l0 k, rfl⟩
set_option maxRecDepth 100000 in
theorem crowd_gathered.F_eq (l0 : List S38) : crowd_gathered.F l0 = if gGuard l0 = true then some (tMerge (sortP l0)) else none := by
  refine LimIs.out (?_ : LimIs (fun k => if gGuard l0 = true then some (tMerge (sortP l0)) else none) _)
  repeat' first
    | (with_reducible exact LimIs.const _)
    | (with_reducible refine LimIs.ite ?_ ?_)
    | (with_reducible refine LimIs.bind ?_ (fun _ => ?_))
    | exact LimIs.const _
    | refine LimIs.ite ?_ ?_
    | refine LimIs.bind ?_ (fun _ => ?_)
end Go.Proofs.Ytfoolbcfpedhmaa.PB
end
section
namespace Go.Proofs.Ytfoolbcfpedhmaa.PB
open Go.RowKit Go.Proofs.YtfoolbcfpedhmaaW.PrintWords Go.Proofs.YtfoolbcfpedhmaaW.PrintLast Go.Proofs.YtfoolbcfpedhmaaW.PrintMore
open Go.Proofs.YtfoolbcfpedhmaaW.EvKit
set_option linter.unusedVariables false
noncomputable def crowd_Shuffled.L0 (x1 : Int) (x10 : List (S38)) (x34 : List Int) (x35 : Int) (x36 : Int) (x166000 : Int) (x166001 : Int) : Option ((List (S38)) × Int) := lim (fun k => crowd_Shuffled.l0 k x1 x10 x34 x35 x36 x166000 x166001)
theorem crowd_Shuffled.L0_is (x1 : Int) (x10 : List (S38)) (x34 : List Int) (x35 : Int) (x36 : Int) (x166000 : Int) (x166001 : Int) : LimIs (fun k => crowd_Shuffled.l0 k x1 x10 x34 x35 x36 x166000 x166001) (crowd_Shuffled.L0 x1 x10 x34 x35 x36 x166000 x166001) := ⟨fun k => (crowd_Shuffled.mono_l k).1 x1 x10 x34 x35 x36 x166000 x166001, rfl⟩
noncomputable def crowd_Shuffled.L1 (x1 : Int) (x13 : List Int) (x14 : List (S38)) (x34 : List Int) (x35 : Int) (x36 : Int) (x50 : List (S38)) (x51 : Int) (x52 : Int) (x166000 : Int) (x166001 : Int) : Option ((List (S38)) × Int) := lim (fun k => crowd_Shuffled.l1 k x1 x13 x14 x34 x35 x36 x50 x51 x52 x166000 x166001)
theorem crowd_Shuffled.L1_is (x1 : Int) (x13 : List Int) (x14 : List (S38)) (x34 : List Int) (x35 : Int) (x36 : Int) (x50 : List (S38)) (x51 : Int) (x52 : Int) (x166000 : Int) (x166001 : Int) : LimIs (fun k => crowd_Shuffled.l1 k x1 x13 x14 x34 x35 x36 x50 x51 x52 x166000 x166001) (crowd_Shuffled.L1 x1 x13 x14 x34 x35 x36 x50 x51 x52 x166000 x166001) := ⟨fun k => (crowd_Shuffled.mono_l k).2.1 x1 x13 x14 x34 x35 x36 x50 x51 x52 x166000 x166001, rfl⟩
noncomputable def crowd_Shuffled.L2 (x1 : Int) (x13 : List Int) (x14 : List (S38)) (x34 : List Int) (x35 : Int) (x36 : Int) (x50 : List (S38)) (x51 : Int) (x52 : Int) (x57 : Int) (x58 : Int) (x166000 : Int) (x166001 : Int) (x191000 : List Int) (x191001 : Int) : Option ((List (S38)) × Int) := lim (fun k => crowd_Shuffled.l2 k x1 x13 x14 x34 x35 x36 x50 x51 x52 x57 x58 x166000 x166001 x191000 x191001)
theorem crowd_Shuffled.L2_is (x1 : Int) (x13 : List Int) (x14 : List (S38)) (x34 : List Int) (x35 : Int) (x36 : Int) (x50 : List (S38)) (x51 : Int) (x52 : Int) (x57 : Int) (x58 : Int) (x166000 : Int) (x166001 : Int) (x191000 : List Int) (x191001 : Int) : LimIs (fun k => crowd_Shuffled.l2 k x1 x13 x14 x34 x35 x36 x50 x51 x52 x57 x58 x166000 x166001 x191000 x191001) (crowd_Shuffled.L2 x1 x13 x14 x34 x35 x36 x50 x51 x52 x57 x58 x166000 x166001 x191000 x191001) := ⟨fun k => (crowd_Shuffled.mono_l k).2.2 x1 x13 x14 x34 x35 x36 x50 x51 x52 x57 x58 x166000 x166001 x191000 x191001, rfl⟩
noncomputable def crowd_Shuffled.F (a0_0 : Int) (a0_1 : Int) (a1 : Int) (l2 : List Int) : Option ((List (S38)) × Int) := lim (fun k => crowd_Shuffled.f k a0_0 a0_1 a1 l2)
theorem crowd_Shuffled.F_is (a0_0 : Int) (a0_1 : Int) (a1 : Int) (l2 : List Int) : LimIs (fun k => crowd_Shuffled.f k a0_0 a0_1 a1 l2) (crowd_Shuffled.F a0_0 a0_1 a1 l2) := ⟨fun k => crowd_Shuffled.mono a0_0 a0_1 a1 l2 k, rfl⟩
set_option maxRecDepth 100000 in
theorem crowd_Shuffled.L0_eq (x1 : Int) (x10 : List (S38)) (x34 : List Int) (x35 : Int) (x36 : Int) (x166000 : Int) (x166001 : Int) : crowd_Shuffled.L0 x1 x10 x34 x35 x36 x166000 x166001 = if x36 < x35 then (if 0 ≤ x36 then (if x36 < (x34.length : Int) then ((slices_Repeat_int_int.f (([x166001] : List Int)) x1).bind fun t182 => (if 0 ≤ (rd x34 x36) then (if (rd x34 x36) < (t182.length : Int) then (crowd_Shuffled.L1 x1 (t182.set ((rd x34 x36) : Int).toNat x166000) ([] : List (S38)) x34 x35 x36 x10 (x10.length : Int) 0 x166000 x166001) else (none)) else (none))) else (none)) else (none)) else ((dist_Make.F x10).bind fun bt174 => (some (bt174.1, bt174.2))) := by
  refine LimIs.step' (crowd_Shuffled.L0_is x1 x10 x34 x35 x36 x166000 x166001).1 (b := fun k => if x36 < x35 then (if 0 ≤ x36 then (if x36 < (x34.length : Int) then ((slices_Repeat_int_int.f (([x166001] : List Int)) x1).bind fun t182 => (if 0 ≤ (rd x34 x36) then (if (rd x34 x36) < (t182.length : Int) then (crowd_Shuffled.l1 k x1 (t182.set ((rd x34 x36) : Int).toNat x166000) ([] : List (S38)) x34 x35 x36 x10 (x10.length : Int) 0 x166000 x166001) else (none)) else (none))) else (none)) else (none)) else ((dist_Make.f k x10).bind fun bt174 => (some (bt174.1, bt174.2)))) (fun k => by first | rfl | rw [crowd_Shuffled.l0]) ?_
  repeat' first
    | (with_reducible exact crowd_Shuffled.L1_is _ _ _ _ _ _ _ _ _ _ _)
    | (with_reducible exact dist_Make.F_is _)
    | (with_reducible exact LimIs.const _)
    | (with_reducible refine LimIs.ite ?_ ?_)
    | (with_reducible refine LimIs.bind ?_ (fun _ => ?_))
    | exact crowd_Shuffled.L1_is _ _ _ _ _ _ _ _ _ _ _
    | exact dist_Make.F_is _
    | exact LimIs.const _
    | refine LimIs.ite ?_ ?_
    | refine LimIs.bind ?_ (fun _ => ?_)
set_option maxRecDepth 100000 in
theorem crowd_Shuffled.L1_eq (x1 : Int) (x13 : List Int) (x14 : List (S38)) (x34 : List Int) (x35 : Int) (x36 : Int) (x50 : List (S38)) (x51 : Int) (x52 : Int) (x166000 : Int) (x166001 : Int) : crowd_Shuffled.L1 x1 x13 x14 x34 x35 x36 x50 x51 x52 x166000 x166001 = if x52 < x51 then (if 0 ≤ x52 then (if x52 < (x50.length : Int) then (crowd_Shuffled.L2 x1 x13 x14 x34 x35 x36 x50 x51 x52 (x13.length : Int) 0 x166000 x166001 ((rd_T38 x50 x52).f0) ((rd_T38 x50 x52).f1)) else (none)) else (none)) else ((crowd_gathered.F x14).bind fun t186 => (crowd_Shuffled.L0 x1 t186 x34 x35 (wrap64 (x36 + 1)) x166000 x166001)) := by
  refine LimIs.step' (crowd_Shuffled.L1_is x1 x13 x14 x34 x35 x36 x50 x51 x52 x166000 x166001).1 (b := fun k => if x52 < x51 then (if 0 ≤ x52 then (if x52 < (x50.length : Int) then (crowd_Shuffled.l2 k x1 x13 x14 x34 x35 x36 x50 x51 x52 (x13.length : Int) 0 x166000 x166001 ((rd_T38 x50 x52).f0) ((rd_T38 x50 x52).f1)) else (none)) else (none)) else ((crowd_gathered.f k x14).bind fun t186 => (crowd_Shuffled.l0 k x1 t186 x34 x35 (wrap64 (x36 + 1)) x166000 x166001))) (fun k => by first | rfl | rw [crowd_Shuffled.l1]) ?_
  repeat' first
    | (with_reducible exact crowd_Shuffled.L2_is _ _ _ _ _ _ _ _ _ _ _ _ _ _ _)
    | (with_reducible exact crowd_gathered.F_is _)
    | (with_reducible exact crowd_Shuffled.L0_is _ _ _ _ _ _ _)
    | (with_reducible exact LimIs.const _)
    | (with_reducible refine LimIs.ite ?_ ?_)
    | (with_reducible refine LimIs.bind ?_ (fun _ => ?_))
    | exact crowd_Shuffled.L2_is _ _ _ _ _ _ _ _ _ _ _ _ _ _ _
    | exact crowd_gathered.F_is _
    | exact crowd_Shuffled.L0_is _ _ _ _ _ _ _
    | exact LimIs.const _
    | refine LimIs.ite ?_ ?_
    | refine LimIs.bind ?_ (fun _ => ?_)
set_option maxRecDepth 100000 in
theorem crowd_Shuffled.L2_eq (x1 : Int) (x13 : List Int) (x14 : List (S38)) (x34 : List Int) (x35 : Int) (x36 : Int) (x50 : List (S38)) (x51 : Int) (x52 : Int) (x57 : Int) (x58 : Int) (x166000 : Int) (x166001 : Int) (x191000 : List Int) (x191001 : Int) : crowd_Shuffled.L2 x1 x13 x14 x34 x35 x36 x50 x51 x52 x57 x58 x166000 x166001 x191000 x191001 = if x58 < x57 then (if 0 ≤ x58 then (if x58 < (x13.length : Int) then ((slices_Clone_int_int.f x191000).bind fun t192 => (if x58 < (t192.length : Int) then (if x14.length < 4398046511104 then (crowd_Shuffled.L2 x1 x13 (x14 ++ [(⟨(t192.set (x58 : Int).toNat (wrap64 ((rd t192 x58) + 1))), wrap64 (x191001 * (rd x13 x58))⟩ : S38)]) x34 x35 x36 x50 x51 x52 x57 (wrap64 (x58 + 1)) x166000 x166001 x191000 x191001) else (none)) else (none))) else (none)) else (none)) else (crowd_Shuffled.L1 x1 x13 x14 x34 x35 x36 x50 x51 (wrap64 (x52 + 1)) x166000 x166001) := by
  refine LimIs.step' (crowd_Shuffled.L2_is x1 x13 x14 x34 x35 x36 x50 x51 x52 x57 x58 x166000 x166001 x191000 x191001).1 (b := fun k => if x58 < x57 then (if 0 ≤ x58 then (if x58 < (x13.length : Int) then ((slices_Clone_int_int.f x191000).bind fun t192 => (if x58 < (t192.length : Int) then (if x14.length < 4398046511104 then (crowd_Shuffled.l2 k x1 x13 (x14 ++ [(⟨(t192.set (x58 : Int).toNat (wrap64 ((rd t192 x58) + 1))), wrap64 (x191001 * (rd x13 x58))⟩ : S38)]) x34 x35 x36 x50 x51 x52 x57 (wrap64 (x58 + 1)) x166000 x166001 x191000 x191001) else (none)) else (none))) else (none)) else (none)) else (crowd_Shuffled.l1 k x1 x13 x14 x34 x35 x36 x50 x51 (wrap64 (x52 + 1)) x166000 x166001)) (fun k => by first | rfl | rw [crowd_Shuffled.l2]) ?_
  repeat' first
    | (with_reducible exact crowd_Shuffled.L2_is _ _ _ _ _ _ _ _ _ _ _ _ _ _ _)
    | (with_reducible exact crowd_Shuffled.L1_is _ _ _ _ _ _ _ _ _ _ _)
    | (with_reducible exact LimIs.const _)
    | (with_reducible refine LimIs.ite ?_ ?_)
    | (with_reducible refine LimIs.bind ?_ (fun _ => ?_))
    | exact crowd_Shuffled.L2_is _ _ _ _ _ _ _ _ _ _ _ _ _ _ _
    | exact crowd_Shuffled.L1_is _ _ _ _ _ _ _ _ _ _ _
    | exact LimIs.const _
    | refine LimIs.ite ?_ ?_
    | refine LimIs.bind ?_ (fun _ => ?_)
set_option maxRecDepth 100000 in
theorem crowd_Shuffled.F_eq (a0_0 : Int) (a0_1 : Int) (a1 : Int) (l2 : List Int) : crowd_Shuffled.F a0_0 a0_1 a1 l2 = (crowd_people.F a0_0 a0_1 a1 l2).bind fun bt166 => (if bt166.2 = 0 then (if 0 ≤ a1 then (if (a1 : Int).toNat ≤ 35184372088832 then (crowd_Shuffled.L0 a1 (([(⟨(List.replicate (a1 : Int).toNat 0), 1⟩ : S38)] : List (S38))) l2 (l2.length : Int) 0 a0_0 a0_1) else (none)) else (none)) else (some (([] : List (S38)), bt166.2))) := by
  refine LimIs.out (?_ : LimIs (fun k => (crowd_people.f k a0_0 a0_1 a1 l2).bind fun bt166 => (if bt166.2 = 0 then (if 0 ≤ a1 then (if (a1 : Int).toNat ≤ 35184372088832 then (crowd_Shuffled.l0 k a1 (([(⟨(List.replicate (a1 : Int).toNat 0), 1⟩ : S38)] : List (S38))) l2 (l2.length : Int) 0 a0_0 a0_1) else (none)) else (none)) else (some (([] : List (S38)), bt166.2)))) _)
  repeat' first
    | (with_reducible exact crowd_people.F_is _ _ _ _)
    | (with_reducible exact crowd_Shuffled.L0_is _ _ _ _ _ _ _)
    | (with_reducible exact LimIs.const _)
    | (with_reducible refine LimIs.ite ?_ ?_)
    | (with_reducible refine LimIs.bind ?_ (fun _ => ?_))
    | exact crowd_people.F_is _ _ _ _
    | exact crowd_Shuffled.L0_is _ _ _ _ _ _ _
    | exact LimIs.const _
    | refine LimIs.ite ?_ ?_
    | refine LimIs.bind ?_ (fun _ => ?_)
end Go.Proofs.Ytfoolbcfpedhmaa.PB
end
section
namespace Go.Proofs.Ytfoolbcfpedhmaa.PB
open Go.RowKit Go.Proofs.YtfoolbcfpedhmaaW.PrintWords Go.Proofs.YtfoolbcfpedhmaaW.PrintLast Go.Proofs.YtfoolbcfpedhmaaW.PrintMore
open Go.Proofs.YtfoolbcfpedhmaaW.EvKit
set_option linter.unusedVariables false
noncomputable def hushref2_Total.L0 (x3 : Int) (x6 : List (S38)) (x7 : Int) (x8 : Int) : Option (Int) := lim (fun k => hushref2_Total.l0 k x3 x6 x7 x8)
theorem hushref2_Total.L0_is (x3 : Int) (x6 : List (S38)) (x7 : Int) (x8 : Int) : LimIs (fun k => hushref2_Total.l0 k x3 x6 x7 x8) (hushref2_Total.L0 x3 x6 x7 x8) := ⟨fun k => (hushref2_Total.mono_l k) x3 x6 x7 x8, rfl⟩
noncomputable def hushlaw13_alive.F : Option (Bool) := lim (fun k => hushlaw13_alive.f k)
theorem hushlaw13_alive.F_is : LimIs (fun k => hushlaw13_alive.f k) (hushlaw13_alive.F) := ⟨fun k => hushlaw13_alive.mono k, rfl⟩
noncomputable def hushref2_Total.F (l0 : List (S38)) : Option (Int) := lim (fun k => hushref2_Total.f k l0)
theorem hushref2_Total.F_is (l0 : List (S38)) : LimIs (fun k => hushref2_Total.f k l0) (hushref2_Total.F l0) := ⟨fun k => hushref2_Total.mono l0 k, rfl⟩
set_option maxRecDepth 100000 in
theorem hushref2_Total.L0_eq (x3 : Int) (x6 : List (S38)) (x7 : Int) (x8 : Int) : hushref2_Total.L0 x3 x6 x7 x8 = if x8 < x7 then (if 0 ≤ x8 then (if x8 < (x6.length : Int) then (hushref2_Total.L0 (wrap64 (x3 + ((rd_T38 x6 x8).f1))) x6 x7 (wrap64 (x8 + 1))) else (none)) else (none)) else (some x3) := by
  refine LimIs.step' (hushref2_Total.L0_is x3 x6 x7 x8).1 (b := fun k => if x8 < x7 then (if 0 ≤ x8 then (if x8 < (x6.length : Int) then (hushref2_Total.l0 k (wrap64 (x3 + ((rd_T38 x6 x8).f1))) x6 x7 (wrap64 (x8 + 1))) else (none)) else (none)) else (some x3)) (fun k => by first | rfl | rw [hushref2_Total.l0]) ?_
  repeat' first
    | (with_reducible exact hushref2_Total.L0_is _ _ _ _)
    | (with_reducible exact LimIs.const _)
    | (with_reducible refine LimIs.ite ?_ ?_)
    | (with_reducible refine LimIs.bind ?_ (fun _ => ?_))
    | exact hushref2_Total.L0_is _ _ _ _
    | exact LimIs.const _
    | refine LimIs.ite ?_ ?_
    | refine LimIs.bind ?_ (fun _ => ?_)
set_option maxRecDepth 100000 in
theorem hushlaw13_alive.F_eq : hushlaw13_alive.F = (crowd_Shuffled.F 2 1 2 (([0] : List Int))).bind fun bt215 => (if bt215.2 = 0 then (some ((bt215.1.length : Int) == 2)) else (some false)) := by
  refine LimIs.out (?_ : LimIs (fun k => (crowd_Shuffled.f k 2 1 2 (([0] : List Int))).bind fun bt215 => (if bt215.2 = 0 then (some ((bt215.1.length : Int) == 2)) else (some false))) _)
  repeat' first
    | (with_reducible exact crowd_Shuffled.F_is _ _ _ _)
    | (with_reducible exact LimIs.const _)
    | (with_reducible refine LimIs.ite ?_ ?_)
    | (with_reducible refine LimIs.bind ?_ (fun _ => ?_))
    | exact crowd_Shuffled.F_is _ _ _ _
    | exact LimIs.const _
    | refine LimIs.ite ?_ ?_
    | refine LimIs.bind ?_ (fun _ => ?_)
set_option maxRecDepth 100000 in
theorem hushref2_Total.F_eq (l0 : List (S38)) : hushref2_Total.F l0 = hushref2_Total.L0 0 l0 (l0.length : Int) 0 := by
  refine LimIs.out (?_ : LimIs (fun k => hushref2_Total.l0 k 0 l0 (l0.length : Int) 0) _)
  repeat' first
    | (with_reducible exact hushref2_Total.L0_is _ _ _ _)
    | (with_reducible exact LimIs.const _)
    | (with_reducible refine LimIs.ite ?_ ?_)
    | (with_reducible refine LimIs.bind ?_ (fun _ => ?_))
    | exact hushref2_Total.L0_is _ _ _ _
    | exact LimIs.const _
    | refine LimIs.ite ?_ ?_
    | refine LimIs.bind ?_ (fun _ => ?_)
end Go.Proofs.Ytfoolbcfpedhmaa.PB
end
section
namespace Go.Proofs.Ytfoolbcfpedhmaa.DistPure
set_option linter.unusedVariables false
set_option linter.unusedSimpArgs false
open Go.RowKit Go.Proofs.Ytfoolbcfpedhmaa.PB Go.Proofs.YtfoolbcfpedhmaaW.PrintWords Go.Proofs.YtfoolbcfpedhmaaW.PrintLast Go.Proofs.YtfoolbcfpedhmaaW.PrintMore Go.Proofs.YtfoolbcfpedhmaaW.EvKit
theorem rdAt {xs : List Int} {i : Nat} (h : i < xs.length) : rd xs (i : Int) = xs[i] := by
  rw [rd_nat, List.getD_eq_getElem?_getD, List.getElem?_eq_getElem h]; rfl
theorem rd32At {xs : List S38} {i : Nat} (h : i < xs.length) : rd_T38 xs (i : Int) = xs[i] := by
  unfold rd_T38
  rw [Int.toNat_natCast, List.getD_eq_getElem?_getD, List.getElem?_eq_getElem h]; rfl
theorem w1 {i : Nat} (h : i < 4611686018427387904) : wrap64 ((i : Int) + 1) = ((i + 1 : Nat) : Int) := by rw [wrap64_of (by omega) (by omega)]; rfl
def okN (n : Int) : Bool := decide (-1073741824 ≤ n) && decide (n ≤ 1073741824)
def smallB (o : List Int) : Bool := decide (o.length ≤ 16) && o.all okN
theorem small1 (n : Int) : dist_small_1.f n = some (!okN n) := by
  unfold dist_small_1.f okN
  by_cases h : n < -1073741824
  · rw [if_pos h]; congr 1; symm; simp; omega
  · rw [if_neg h]; congr 1; rw [Bool.eq_iff_iff]; simp; omega
theorem index_loop (x : List Int) (hx : x.length ≤ 1048576) : ∀ (n i : Nat), i + n = x.length →
    ∃ r, slices_IndexFunc_int_int.L0 x (x.length : Int) (i : Int) = some r ∧ decide (r ≥ 0) = !((x.drop i).all okN) := by
  intro n
  induction n with
  | zero =>
    intro i hi
    refine ⟨-1, ?_, ?_⟩
    · rw [slices_IndexFunc_int_int.L0_eq, if_neg (by omega)]
    · rw [List.drop_of_length_le (show x.length ≤ i by omega)]; rfl
  | succ n ih =>
    intro i hi
    have hxi : i < x.length := by omega
    rw [slices_IndexFunc_int_int.L0_eq, if_pos (by omega), if_pos (by omega), if_pos (by omega), rdAt hxi, small1, Option.bind_some, List.drop_eq_getElem_cons hxi, List.all_cons]
    cases h : okN x[i] with
    | false => exact ⟨i, if_pos rfl, by simp⟩
    | true =>
      obtain ⟨r, h1, h2⟩ := ih (i + 1) (by omega)
      refine ⟨r, ?_, by rw [h2]; rfl⟩
      rw [if_neg (by decide), w1 (by omega)]
      exact h1
theorem smallF (o : List Int) (h : o.length ≤ 1048576) : dist_small.F o = some (smallB o) := by
  rw [dist_small.F_eq]
  unfold smallB
  by_cases c : o.length ≤ 16
  · obtain ⟨r, h1, h2⟩ := index_loop o h o.length 0 (by omega)
    rw [if_pos (by omega), slices_ContainsFunc_int_int.F_eq, slices_IndexFunc_int_int.F_eq]
    rw [show (0 : Int) = ((0 : Nat) : Int) from rfl, h1]
    rw [Option.bind_some, Option.bind_some]
    have h2 : decide (r ≥ ((0 : Nat) : Int)) = !((o.drop 0).all okN) := h2
    rw [h2, List.drop_zero, decide_eq_true c]
    simp
  · rw [if_neg (by omega), decide_eq_false c]; rfl
theorem totOf_cons (p : S38) (l : List S38) : totOf (p :: l) = p.f1 + totOf l := rfl
theorem totOf_nil : totOf [] = 0 := rfl
theorem tot_ge : ∀ {l : List S38}, (∀ p ∈ l, 0 ≤ p.f1) → 0 ≤ totOf l
  | [], _ => Int.le_refl _
  | p :: l, h => by
    have := tot_ge (l := l) (fun q hq => h q (by simp [hq]))
    have := h p (by simp)
    rw [totOf_cons]; omega
theorem wOf_le : ∀ {l : List S38}, (∀ p ∈ l, 0 ≤ p.f1) → ∀ o, 0 ≤ wOf l o ∧ wOf l o ≤ totOf l
  | [], _, _ => ⟨Int.le_refl _, Int.le_refl _⟩
  | p :: l, h, o => by
    have := wOf_le (l := l) (fun q hq => h q (by simp [hq])) o
    have := h p (by simp)
    rw [totOf_cons, wOf_cons]
    split <;> omega
theorem tot_bd : ∀ {l : List S38}, (∀ p ∈ l, 0 ≤ p.f1 ∧ p.f1 ≤ 1073741824) → totOf l ≤ 1073741824 * (l.length : Int)
  | [], _ => Int.le_refl _
  | p :: l, h => by
    have := tot_bd (l := l) (fun q hq => h q (by simp [hq]))
    have := h p (by simp)
    rw [totOf_cons, List.length_cons]; omega
theorem mem_at {l : List S38} {i : Nat} (h : i < l.length) : l[i] ∈ l := List.getElem_mem h
theorem drop_in {l : List S38} {i : Nat} {P : S38 → Prop} (h : ∀ p ∈ l, P p) : ∀ p ∈ l.drop i, P p := fun p hp => h p (List.mem_of_mem_drop hp)
theorem rtot_loop (x : List S38) (hx : x.length ≤ 1048576) (h0 : ∀ p ∈ x, 0 ≤ p.f1) : ∀ (n i : Nat) (a : Int), i + n = x.length → 0 ≤ a → a + totOf (x.drop i) ≤ 4611686018427387904 →
    hushref2_Total.L0 a x (x.length : Int) (i : Int) = some (a + totOf (x.drop i)) := by
  intro n
  induction n with
  | zero =>
    intro i a hi _ _
    rw [hushref2_Total.L0_eq, if_neg (by omega), List.drop_of_length_le (show x.length ≤ i by omega), totOf_nil, Int.add_zero]
  | succ n ih =>
    intro i a hi ha hb
    have hxi : i < x.length := by omega
    have hm := h0 _ (mem_at hxi)
    have hr := tot_ge (drop_in (i := i + 1) h0)
    rw [List.drop_eq_getElem_cons hxi, totOf_cons] at hb ⊢
    rw [hushref2_Total.L0_eq, if_pos (by omega), if_pos (by omega), if_pos (by omega), rd32At hxi, w1 (by omega), wrap64_of (by omega) (by omega), ih (i + 1) _ (by omega) (by omega) (by omega)]
    congr 1
    omega
theorem rtotF (l : List S38) (hl : l.length ≤ 1048576) (h0 : ∀ p ∈ l, 0 ≤ p.f1) (ht : totOf l ≤ 4611686018427387904) : hushref2_Total.F l = some (totOf l) := by
  rw [hushref2_Total.F_eq]
  have h := rtot_loop l hl h0 l.length 0 0 (by omega) (by omega) (by rw [List.drop_zero]; omega)
  rw [List.drop_zero, Int.zero_add] at h
  exact h
end Go.Proofs.Ytfoolbcfpedhmaa.DistPure
end
section
namespace Go.Proofs.Ytfoolbcfpedhmaa.DistPure
set_option linter.unusedVariables false
set_option linter.unusedSimpArgs false
open Go.RowKit Go.Proofs.Ytfoolbcfpedhmaa.PB Go.Proofs.YtfoolbcfpedhmaaW.PrintWords Go.Proofs.YtfoolbcfpedhmaaW.PrintLast Go.Proofs.YtfoolbcfpedhmaaW.PrintMore Go.Proofs.YtfoolbcfpedhmaaW.EvKit
end Go.Proofs.Ytfoolbcfpedhmaa.DistPure
end
section
namespace Go.Proofs.Ytfoolbcfpedhmaa.DistPure
set_option linter.unusedVariables false
set_option linter.unusedSimpArgs false
open Go.RowKit Go.Proofs.Ytfoolbcfpedhmaa.PB Go.Proofs.YtfoolbcfpedhmaaW.PrintWords Go.Proofs.YtfoolbcfpedhmaaW.PrintLast Go.Proofs.YtfoolbcfpedhmaaW.PrintMore Go.Proofs.YtfoolbcfpedhmaaW.EvKit
def Outs (l : List S38) (x : List Int) : Prop := ∃ p ∈ l, p.f0 = x ∧ 0 < p.f1
theorem wOf_ge : ∀ {l : List S38}, (∀ p ∈ l, 0 ≤ p.f1) → ∀ {p : S38}, p ∈ l → p.f1 ≤ wOf l p.f0
  | [], _, p, h => by cases h
  | q :: l, h0, p, h => by
    have h1 := h0 q (by simp)
    have h2 : ∀ p ∈ l, 0 ≤ p.f1 := fun x hx => h0 x (by simp [hx])
    rw [wOf_cons]
    rcases List.mem_cons.1 h with e | e
    · subst e
      rw [if_pos rfl]
      have := (wOf_le h2 p.f0).1
      omega
    · have := wOf_ge h2 e
      split <;> omega
theorem wOf_some : ∀ {l : List S38}, (∀ p ∈ l, 0 ≤ p.f1) → ∀ {o : List Int}, 0 < wOf l o → Outs l o
  | [], _, _, h => absurd h (Int.lt_irrefl 0)
  | q :: l, h0, o, h => by
    have h1 := h0 q (by simp)
    rw [wOf_cons] at h
    by_cases c : q.f0 = o ∧ 0 < q.f1
    · exact ⟨q, by simp, c⟩
    · have h2 : 0 < wOf l o := by
        by_cases e : q.f0 = o
        · rw [if_pos e] at h
          have : ¬ 0 < q.f1 := fun x => c ⟨e, x⟩
          omega
        · rw [if_neg e] at h; omega
      obtain ⟨p, hp, e⟩ := wOf_some (fun x hx => h0 x (by simp [hx])) h2
      exact ⟨p, by simp [hp], e⟩
theorem outs_iff {l D : List S38} (h : Canon l D) (h0 : ∀ p ∈ l, 0 ≤ p.f1) (x : List Int) : Outs l x ↔ ∃ q ∈ D, q.f0 = x := by
  have d0 : ∀ p ∈ D, 0 ≤ p.f1 := fun p hp => Int.le_of_lt (h.pos p hp)
  constructor
  · rintro ⟨p, hp, e, hpos⟩
    have := wOf_ge h0 hp
    rw [e, ← h.w] at this
    exact wOf_mem (by omega)
  · rintro ⟨q, hq, e⟩
    have := wOf_ge d0 hq
    have := h.pos q hq
    subst e
    exact wOf_some h0 (by rw [← h.w]; omega)
def Least (S : List Int → Prop) (o : List Int) (f : Bool) : Prop := (f = true → S o ∧ ∀ x, S x → cmpL o x ≤ 0) ∧ (f = false → ∀ x, ¬ S x)
theorem Least.new {S S' : List Int → Prop} {o v : List Int} (h : Least S o false) (hS : ∀ x, S' x ↔ S x ∨ x = v) : Least S' v true :=
  ⟨fun _ => ⟨(hS v).2 (.inr rfl), fun x hx => by
    rcases (hS x).1 hx with h1 | h1
    · exact absurd h1 (h.2 rfl x)
    · rw [h1, cmpL_self]; exact Int.le_refl 0⟩, fun c => by cases c⟩
theorem Least.lt {S S' : List Int → Prop} {o v : List Int} (h : Least S o true) (c : cmpL v o < 0) (hS : ∀ x, S' x ↔ S x ∨ x = v) : Least S' v true :=
  ⟨fun _ => ⟨(hS v).2 (.inr rfl), fun x hx => by
    rcases (hS x).1 hx with h1 | h1
    · exact cmpL_le_trans _ _ _ (Int.le_of_lt c) ((h.1 rfl).2 x h1)
    · rw [h1, cmpL_self]; exact Int.le_refl 0⟩, fun c => by cases c⟩
theorem Least.same {S S' : List Int → Prop} {o : List Int} {f : Bool} (h : Least S o f) (hS : ∀ x, S' x ↔ S x) : Least S' o f :=
  ⟨fun c => ⟨(hS o).2 (h.1 c).1, fun x hx => (h.1 c).2 x ((hS x).1 hx)⟩, fun c x hx => h.2 c x ((hS x).1 hx)⟩
theorem take_one {l : List S38} {i : Nat} (h : i < l.length) : l.take (i + 1) = l.take i ++ [l[i]] := by
  rw [List.take_add_one, List.getElem?_eq_getElem h]; rfl
theorem one_le {l : List S38} (h0 : ∀ p ∈ l, 0 ≤ p.f1) {p : S38} (h : p ∈ l) : p.f1 ≤ totOf l := by
  have h1 := wOf_ge h0 h
  have h2 := (wOf_le h0 p.f0).2
  omega
theorem tStep_len (d : List S38) (p : S38) : (tStep d p).length ≤ d.length + 1 := by
  unfold tStep
  split
  · omega
  · split
    · split
      · rw [List.length_append, List.length_dropLast, List.length_singleton]; omega
      · rw [List.length_append, List.length_singleton]; omega
    · rw [List.length_append, List.length_singleton]; omega
theorem tFold_len : ∀ (l d : List S38), (l.foldl tStep d).length ≤ d.length + l.length
  | [], d => by simp
  | p :: l, d => by
    have := tFold_len l (tStep d p)
    have := tStep_len d p
    rw [List.foldl_cons, List.length_cons]; omega
theorem tMerge_len (l : List S38) : (tMerge (sortP l)).length ≤ l.length := by
  have := tFold_len (sortP l) []
  rw [(sortP_perm l).length_eq, List.length_nil] at this
  unfold tMerge
  omega
theorem totOf_app : ∀ (a b : List S38), totOf (a ++ b) = totOf a + totOf b
  | [], b => by rw [totOf_nil]; exact (Int.zero_add _).symm
  | p :: a, b => by rw [List.cons_append, totOf_cons, totOf_cons, totOf_app a b]; omega
theorem totOf_perm {a b : List S38} (h : a.Perm b) : totOf a = totOf b := isum_perm (h.map _)
theorem tStep_tot (d : List S38) (p : S38) : totOf (tStep d p) = totOf d + p.f1 := by
  unfold tStep
  split
  · omega
  · split
    · rename_i q hq
      obtain ⟨d0, e⟩ : ∃ d0, d = d0 ++ [q] := List.getLast?_eq_some_iff.1 hq
      subst e
      split
      · rw [List.dropLast_concat, totOf_app, totOf_app, totOf_cons, totOf_cons, totOf_nil]
        show _ + (q.f1 + p.f1 + 0) = _
        omega
      · rw [totOf_app _ [p], totOf_cons p, totOf_nil]; omega
    · rw [totOf_app, totOf_cons, totOf_nil]; omega
theorem tFold_tot : ∀ (l d : List S38), totOf (l.foldl tStep d) = totOf d + totOf l
  | [], d => by rw [totOf_nil]; exact (Int.add_zero _).symm
  | p :: l, d => by rw [List.foldl_cons, tFold_tot, tStep_tot, totOf_cons]; omega
theorem tMerge_tot (l : List S38) : totOf (tMerge (sortP l)) = totOf l := by
  unfold tMerge
  rw [tFold_tot, totOf_perm (sortP_perm l), totOf_nil]; omega
end Go.Proofs.Ytfoolbcfpedhmaa.DistPure
end
section
namespace Go.Proofs.Ytfoolbcfpedhmaa.DistPure
set_option linter.unusedVariables false
set_option linter.unusedSimpArgs false
open Go.RowKit Go.Proofs.Ytfoolbcfpedhmaa.PB Go.Proofs.YtfoolbcfpedhmaaW.PrintWords Go.Proofs.YtfoolbcfpedhmaaW.PrintLast Go.Proofs.YtfoolbcfpedhmaaW.PrintMore Go.Proofs.YtfoolbcfpedhmaaW.EvKit
instance : DecidableEq S38 := fun p q => decidable_of_iff (p.f1 = q.f1 ∧ p.f0 = q.f0) (by cases p; cases q; simp only [S38.mk.injEq]; exact And.comm)
structure Bd (l : List S38) : Prop where
  len : l.length ≤ 1048576
  out : ∀ p ∈ l, p.f0.length ≤ 1048576
def okP (p : S38) : Bool := smallB p.f0 && (decide (0 ≤ p.f1) && decide (p.f1 ≤ 1073741824))
theorem okP_iff {p : S38} : okP p = true ↔ smallB p.f0 = true ∧ 0 ≤ p.f1 ∧ p.f1 ≤ 1073741824 := by simp [okP]
def makeP (l : List S38) : List S38 × Int := if l.all okP = true then tDone (tMerge (sortP l)) else ([], 3)
theorem all_ok {l : List S38} (h : l.all okP = true) : ∀ p ∈ l, 0 ≤ p.f1 ∧ p.f1 ≤ 1073741824 := fun p hp => (okP_iff.1 (List.all_eq_true.1 h p hp)).2
theorem all_tot {l : List S38} (h : l.all okP = true) (hl : l.length ≤ 1048576) : totOf l ≤ 4611686018427387904 := by
  have := tot_bd (all_ok h)
  omega
theorem tidyF (l : List S38) (hl : l.length ≤ 1048576) (h : l.all okP = true) : dist_tidy.F l = some (tDone (tMerge (sortP l))) := by
  rw [dist_tidy.F_eq, if_pos]
  unfold tGuard
  have := all_tot h hl
  simp only [Bool.and_eq_true, decide_eq_true_eq, List.all_eq_true]
  exact ⟨⟨by omega, fun p hp => (all_ok h p hp).1⟩, this⟩
theorem cloneF (o : List Int) (h : o.length ≤ 1048576) : slices_Clone_int_int.f o = some o := by
  unfold slices_Clone_int_int.f
  rw [if_pos (by omega)]
theorem make_loop (l : List S38) (h : Bd l) : ∀ (n i : Nat), i + n = l.length → (l.take i).all okP = true →
    dist_Make.L0 (l.take i) l (l.length : Int) (i : Int) = some (if (l.drop i).all okP = true then tDone (tMerge (sortP l)) else ([], 3)) := by
  have hl := h.len
  intro n
  induction n with
  | zero =>
    intro i hi ha
    rw [List.take_of_length_le (show l.length ≤ i by omega)] at ha ⊢
    rw [dist_Make.L0_eq, if_neg (by omega), tidyF l h.len ha, Option.bind_some, List.drop_of_length_le (show l.length ≤ i by omega)]
    rfl
  | succ n ih =>
    intro i hi ha
    have hxi : i < l.length := by omega
    have ho := h.out _ (mem_at hxi)
    rw [dist_Make.L0_eq, if_pos (by omega), if_pos (by omega), if_pos (by omega), rd32At hxi, smallF _ ho, Option.bind_some, List.drop_eq_getElem_cons hxi, List.all_cons]
    have e : okP l[i] = (smallB l[i].f0 && (decide (0 ≤ l[i].f1) && decide (l[i].f1 ≤ 1073741824))) := rfl
    cases c : smallB l[i].f0 with
    | false =>
      rw [if_neg (by decide), e, c]
      rfl
    | true =>
      rw [if_pos rfl]
      by_cases c1 : l[i].f1 < 0
      · rw [if_pos c1, if_neg]
        rw [e, decide_eq_false (show ¬ 0 ≤ l[i].f1 by omega)]
        simp
      · rw [if_neg c1]
        by_cases c2 : l[i].f1 > 1073741824
        · rw [if_pos c2, if_neg]
          rw [e, decide_eq_false (show ¬ l[i].f1 ≤ 1073741824 by omega)]
          simp
        · have hok : okP l[i] = true := okP_iff.2 ⟨c, by omega, by omega⟩
          rw [if_neg c2, cloneF _ ho, Option.bind_some, if_pos (by rw [List.length_take]; omega), hok, Bool.true_and, w1 (by omega)]
          have e2 : l.take i ++ [(⟨l[i].f0, l[i].f1⟩ : S38)] = l.take (i + 1) := (take_one hxi).symm
          rw [e2]
          exact ih (i + 1) (by omega) (by rw [take_one hxi, List.all_append, ha]; simp [hok])
theorem makeF1 (l : List S38) (h : Bd l) : dist_Make.F l = some (makeP l) := by
  rw [dist_Make.F_eq]
  exact make_loop l h l.length 0 (by omega) (by simp)
theorem tDone_bd {D : List S38} (h : Bd D) : Bd (tDone D).1 := by
  unfold tDone
  split
  · exact ⟨by simp, by simp⟩
  · split
    · exact ⟨by simp, by simp⟩
    · refine ⟨by simpa using h.len, fun p hp => ?_⟩
      obtain ⟨q, hq, rfl⟩ := List.mem_map.1 hp
      exact h.out q hq
theorem makeP_bd {l : List S38} (h : Bd l) : Bd (makeP l).1 := by
  unfold makeP
  split
  · rename_i c
    have h0 : ∀ p ∈ l, 0 ≤ p.f1 := fun p hp => (all_ok c p hp).1
    refine tDone_bd ⟨?_, fun q hq => ?_⟩
    · have := tMerge_len l
      have := h.len
      omega
    · obtain ⟨p, hp, e, _⟩ := (outs_iff (tidy_canon h0) h0 q.f0).2 ⟨q, hq, rfl⟩
      rw [← e]
      exact h.out p hp
  · exact ⟨by simp, by simp⟩
def wrongP (d : List S38) : Int := if (makeP d).2 = 0 then (if d = (makeP d).1 then 0 else 2) else (makeP d).2
structure Right (d : List S38) : Prop where
  ok : d.all okP = true
  st : Strict d
  pos : 0 < totOf d
  few : totOf d ≤ 1073741824
  much : d.length ≤ 4096
theorem div_sum (g : Int) (hg : 0 < g) : ∀ (D : List S38), totOf (D.map (fun p => (⟨p.f0, p.f1 / g⟩ : S38))) ≤ totOf D / g
  | [] => by rw [List.map_nil, totOf_nil, Int.zero_ediv]; exact Int.le_refl 0
  | p :: D => by
    have ih := div_sum g hg D
    rw [List.map_cons, totOf_cons, totOf_cons]
    have h1 := Int.ediv_mul_le p.f1 (show g ≠ 0 by omega)
    have h2 := Int.ediv_mul_le (totOf D) (show g ≠ 0 by omega)
    have h3 : p.f1 / g + totOf D / g ≤ (p.f1 + totOf D) / g := by
      rw [Int.le_ediv_iff_mul_le hg, Int.add_mul]
      omega
    show p.f1 / g + _ ≤ _
    omega
theorem right_of {d : List S38} (h : wrongP d = 0) : Right d := by
  unfold wrongP at h
  by_cases c : (makeP d).2 = 0
  · rw [if_pos c] at h
    by_cases c2 : d = (makeP d).1
    · unfold makeP at c c2
      by_cases ho : d.all okP = true
      · rw [if_pos ho] at c c2
        have h0 : ∀ p ∈ d, 0 ≤ p.f1 := fun p hp => (all_ok ho p hp).1
        have hc := tidy_canon h0
        have htot := tMerge_tot d
        unfold tDone at c c2
        by_cases e1 : tMerge (sortP d) = []
        · rw [if_pos e1] at c; cases c
        · rw [if_neg e1] at c c2
          have hg := gOf_pos hc.pos e1
          by_cases e2 : totOf (tMerge (sortP d)) / (gOf (tMerge (sortP d)) : Int) > 1073741824 ∨ (tMerge (sortP d)).length > 4096
          · rw [if_pos e2] at c; cases c
          · rw [if_neg e2] at c2
            dsimp only at c2
            have hs := div_sum (gOf (tMerge (sortP d)) : Int) (by omega) (tMerge (sortP d))
            have htot2 : 0 < totOf (tMerge (sortP d)) := by
              cases hD : tMerge (sortP d) with
              | nil => exact absurd hD e1
              | cons q D =>
                have hp := hc.pos q (by rw [hD]; simp)
                have h2 := one_le (l := tMerge (sortP d)) (fun p hp => Int.le_of_lt (hc.pos p hp)) (p := q) (by rw [hD]; simp)
                rw [hD] at h2
                omega
            refine ⟨ho, ?_, by omega, ?_, ?_⟩
            · rw [c2]
              unfold Strict
              rw [List.pairwise_map]
              exact hc.st
            · rw [← c2] at hs
              omega
            · have := congrArg List.length c2
              rw [List.length_map] at this
              omega
      · rw [if_neg ho] at c; cases c
    · rw [if_neg c2] at h; cases h
  · rw [if_neg c] at h; exact absurd h c
end Go.Proofs.Ytfoolbcfpedhmaa.DistPure
end
section
namespace Go.Proofs.Ytfoolbcfpedhmaa.DistPure
set_option linter.unusedVariables false
set_option linter.unusedSimpArgs false
open Go.RowKit Go.Proofs.Ytfoolbcfpedhmaa.PB Go.Proofs.YtfoolbcfpedhmaaW.PrintWords Go.Proofs.YtfoolbcfpedhmaaW.PrintLast Go.Proofs.YtfoolbcfpedhmaaW.PrintMore Go.Proofs.YtfoolbcfpedhmaaW.EvKit
theorem gOf_dvd_go : ∀ (d : List S38) (g : Nat), d.foldl (fun g p => Nat.gcd p.f1.toNat g) g ∣ g ∧ ∀ p ∈ d, d.foldl (fun g p => Nat.gcd p.f1.toNat g) g ∣ p.f1.toNat
  | [], g => ⟨Nat.dvd_refl _, fun p hp => by cases hp⟩
  | q :: d, g => by
    rw [List.foldl_cons]
    obtain ⟨h1, h2⟩ := gOf_dvd_go d (Nat.gcd q.f1.toNat g)
    refine ⟨Nat.dvd_trans h1 (Nat.gcd_dvd_right _ _), fun p hp => ?_⟩
    rcases List.mem_cons.1 hp with e | e
    · rw [e]; exact Nat.dvd_trans h1 (Nat.gcd_dvd_left _ _)
    · exact h2 p e
theorem gOf_dvd {d : List S38} {p : S38} (h : p ∈ d) : gOf d ∣ p.f1.toNat := (gOf_dvd_go d 0).2 p h
theorem gOf_max_go : ∀ (d : List S38) (g n : Nat), n ∣ g → (∀ p ∈ d, n ∣ p.f1.toNat) → n ∣ d.foldl (fun g p => Nat.gcd p.f1.toNat g) g
  | [], g, n, h, _ => h
  | q :: d, g, n, h, h0 => gOf_max_go d _ n (Nat.dvd_gcd (h0 q (by simp)) h) (fun p hp => h0 p (by simp [hp]))
theorem gOf_max {d : List S38} {n : Nat} (h : ∀ p ∈ d, n ∣ p.f1.toNat) : n ∣ gOf d := gOf_max_go d 0 n (Nat.dvd_zero n) h
theorem div_pos' {p : Int} {g : Nat} (hp : 0 < p) (hg : 0 < g) (hd : g ∣ p.toNat) : ∃ m : Nat, 0 < m ∧ p / (g : Int) = (m : Int) ∧ p.toNat = g * m := by
  obtain ⟨m, hm⟩ := hd
  have e : p = ((g * m : Nat) : Int) := by rw [← hm]; omega
  refine ⟨m, ?_, ?_, hm⟩
  · rcases Nat.eq_zero_or_pos m with h | h
    · rw [h, Nat.mul_zero] at hm; omega
    · exact h
  · rw [e, Int.natCast_mul, Int.mul_ediv_cancel_left _ (by omega)]
theorem canon_self {l : List S38} (hs : Strict l) (hp : ∀ p ∈ l, 0 < p.f1) : tMerge (sortP l) = l :=
  (tidy_canon (fun p h => Int.le_of_lt (hp p h))).uniq (⟨hs, hp, fun _ => rfl⟩ : Canon l l) (fun _ => rfl)
def divG (l : List S38) : List S38 := l.map (fun p => (⟨p.f0, p.f1 / (gOf l : Int)⟩ : S38))
structure Ord (l : List S38) : Prop where
  st : Strict l
  pos : ∀ p ∈ l, 0 < p.f1
  ok : l.all okP = true
  ne : l ≠ []
  few : totOf l ≤ 1073741824
  much : l.length ≤ 4096
theorem Ord.make {l : List S38} (h : Ord l) : makeP l = (divG l, 0) := by
  have hg := gOf_pos h.pos h.ne
  have h0 : 0 ≤ totOf l := by
    cases hl : l with
    | nil => exact absurd hl h.ne
    | cons q D =>
      have h1 := one_le (l := l) (fun p hp => Int.le_of_lt (h.pos p hp)) (p := q) (by rw [hl]; simp)
      have h2 := h.pos q (by rw [hl]; simp)
      rw [← hl]; omega
  have h1 : totOf l / (gOf l : Int) ≤ totOf l := Int.ediv_le_self _ h0
  have h2 := h.few
  have h3 := h.much
  unfold makeP
  rw [if_pos h.ok, canon_self h.st h.pos]
  unfold tDone
  rw [if_neg h.ne, if_neg (by omega)]
  rfl
theorem Ord.mem {l : List S38} (h : Ord l) {q : S38} (hq : q ∈ divG l) : ∃ p ∈ l, ∃ m : Nat, 0 < m ∧ q = ⟨p.f0, (m : Int)⟩ ∧ p.f1 = ((gOf l * m : Nat) : Int) := by
  obtain ⟨p, hp, rfl⟩ := List.mem_map.1 hq
  obtain ⟨m, h1, h2, h3⟩ := div_pos' (h.pos p hp) (gOf_pos h.pos h.ne) (gOf_dvd hp)
  have h4 := h.pos p hp
  exact ⟨p, hp, m, h1, by rw [h2], by omega⟩
theorem wOf_map (g : Nat) (hg : 0 < g) (o : List Int) : ∀ (L : List S38), (∀ p ∈ L, 0 < p.f1 ∧ g ∣ p.f1.toNat) → wOf (L.map (fun p => (⟨p.f0, p.f1 / (g : Int)⟩ : S38))) o * (g : Int) = wOf L o
  | [], _ => by simp [wOf, isum]
  | p :: L, h => by
    have ih := wOf_map g hg o L (fun q hq => h q (by simp [hq]))
    obtain ⟨h1, h2⟩ := h p (by simp)
    obtain ⟨m, _, e, e'⟩ := div_pos' h1 hg h2
    have e2 : p.f1 / (g : Int) * (g : Int) = p.f1 := by
      rw [e, ← Int.natCast_mul, Nat.mul_comm]; omega
    rw [List.map_cons, wOf_cons, wOf_cons, Int.add_mul, ih]
    by_cases c : p.f0 = o
    · rw [if_pos c, if_pos c, e2]
    · rw [if_neg c, if_neg c, Int.zero_mul]
theorem tot_map (g : Nat) (hg : 0 < g) : ∀ (L : List S38), (∀ p ∈ L, 0 < p.f1 ∧ g ∣ p.f1.toNat) → totOf (L.map (fun p => (⟨p.f0, p.f1 / (g : Int)⟩ : S38))) * (g : Int) = totOf L
  | [], _ => by rw [List.map_nil, totOf_nil, Int.zero_mul]
  | p :: L, h => by
    have ih := tot_map g hg L (fun q hq => h q (by simp [hq]))
    obtain ⟨h1, h2⟩ := h p (by simp)
    obtain ⟨m, _, e, e'⟩ := div_pos' h1 hg h2
    have e2 : p.f1 / (g : Int) * (g : Int) = p.f1 := by
      rw [e, ← Int.natCast_mul, Nat.mul_comm]; omega
    rw [List.map_cons, totOf_cons, totOf_cons, Int.add_mul, ih]
    show p.f1 / (g : Int) * (g : Int) + _ = _
    rw [e2]
theorem Ord.all {l : List S38} (h : Ord l) : ∀ p ∈ l, 0 < p.f1 ∧ gOf l ∣ p.f1.toNat := fun p hp => ⟨h.pos p hp, gOf_dvd hp⟩
theorem Ord.w {l : List S38} (h : Ord l) (o : List Int) : wOf (divG l) o * (gOf l : Int) = wOf l o := wOf_map (gOf l) (gOf_pos h.pos h.ne) o l h.all
theorem Ord.t {l : List S38} (h : Ord l) : totOf (divG l) * (gOf l : Int) = totOf l := tot_map (gOf l) (gOf_pos h.pos h.ne) l h.all
theorem Ord.g1 {l : List S38} (h : Ord l) : gOf (divG l) = 1 := by
  have hg := gOf_pos h.pos h.ne
  have h1 : gOf l * gOf (divG l) ∣ gOf l := gOf_max (fun q hq => by
    obtain ⟨m, _, h2, h3⟩ := div_pos' (h.pos q hq) hg (gOf_dvd hq)
    have h4 := gOf_dvd (List.mem_map.2 ⟨q, hq, rfl⟩ : (⟨q.f0, q.f1 / (gOf l : Int)⟩ : S38) ∈ divG l)
    rw [h3]
    refine Nat.mul_dvd_mul_left _ ?_
    have h5 : (q.f1 / (gOf l : Int)).toNat = m := by rw [h2]; omega
    rw [← h5]
    exact h4)
  have h2 := Nat.le_of_dvd hg h1
  have h3 : 0 < gOf (divG l) := by
    refine gOf_pos (fun p hp => ?_) (by unfold divG; simpa using h.ne)
    obtain ⟨_, _, m, h1, rfl, _⟩ := h.mem hp
    show (0 : Int) < m
    omega
  generalize gOf (divG l) = x at *
  rcases Nat.lt_or_ge 1 x with c | c
  · have := Nat.mul_lt_mul_of_pos_left c hg
    omega
  · omega
theorem Ord.div {l : List S38} (h : Ord l) : Ord (divG l) := by
  have hg := gOf_pos h.pos h.ne
  refine ⟨?_, ?_, ?_, by unfold divG; simpa using h.ne, ?_, by unfold divG; rw [List.length_map]; exact h.much⟩
  · unfold Strict divG
    rw [List.pairwise_map]
    exact h.st
  · intro p hp
    obtain ⟨_, _, m, h1, rfl, _⟩ := h.mem hp
    show (0 : Int) < m
    omega
  · rw [List.all_eq_true]
    intro q hq
    obtain ⟨p, hp, m, h1, rfl, e⟩ := h.mem hq
    obtain ⟨k1, k2, k3⟩ := okP_iff.1 (List.all_eq_true.1 h.ok p hp)
    have : m ≤ gOf l * m := Nat.le_mul_of_pos_left m hg
    refine okP_iff.2 ⟨k1, ?_, ?_⟩
    · show (0 : Int) ≤ m
      omega
    · show (m : Int) ≤ 1073741824
      omega
  · have := div_sum (gOf l : Int) (by omega) l
    have h2 := h.few
    have h1 : totOf l / (gOf l : Int) ≤ totOf l := by
      refine Int.ediv_le_self _ ?_
      cases hl : l with
      | nil => exact absurd hl h.ne
      | cons q D =>
        have h1 := one_le (l := l) (fun p hp => Int.le_of_lt (h.pos p hp)) (p := q) (by rw [hl]; simp)
        have h2 := h.pos q (by rw [hl]; simp)
        rw [← hl]; omega
    unfold divG
    omega
theorem Ord.wrong {l : List S38} (h : Ord l) : wrongP (divG l) = 0 := by
  have e : divG (divG l) = divG l := by
    have h1 := h.g1
    have e2 : divG (divG l) = (divG l).map (fun p => (⟨p.f0, p.f1 / (gOf (divG l) : Int)⟩ : S38)) := rfl
    rw [e2, h1]
    have e3 : ∀ L : List S38, L.map (fun p => (⟨p.f0, p.f1 / ((1 : Nat) : Int)⟩ : S38)) = L := fun L => by
      induction L with
      | nil => rfl
      | cons p L ih =>
        rw [List.map_cons, ih]
        congr 1
        have : p.f1 / ((1 : Nat) : Int) = p.f1 := by rw [Int.natCast_one, Int.ediv_one]
        rw [this]
    exact e3 _
  unfold wrongP
  rw [h.div.make, e]
  simp
theorem Ord.bd {l : List S38} (h : Ord l) (hb : Bd l) : Bd (divG l) := by
  have := makeP_bd hb
  rw [h.make] at this
  exact this
end Go.Proofs.Ytfoolbcfpedhmaa.DistPure
end
section
namespace Go.Proofs.Ytfoolbcfpedhmaa.DistPure
set_option linter.unusedVariables false
set_option linter.unusedSimpArgs false
open Go.RowKit Go.Proofs.Ytfoolbcfpedhmaa.PB Go.Proofs.YtfoolbcfpedhmaaW.PrintWords Go.Proofs.YtfoolbcfpedhmaaW.PrintLast Go.Proofs.YtfoolbcfpedhmaaW.PrintMore Go.Proofs.YtfoolbcfpedhmaaW.EvKit
theorem g1_of {l : List S38} (hp : ∀ p ∈ l, 0 < p.f1) (hn : l ≠ []) : gOf (divG l) = 1 := by
  have hg := gOf_pos hp hn
  have h1 : gOf l * gOf (divG l) ∣ gOf l := gOf_max (fun q hq => by
    obtain ⟨m, _, h2, h3⟩ := div_pos' (hp q hq) hg (gOf_dvd hq)
    have h4 := gOf_dvd (List.mem_map.2 ⟨q, hq, rfl⟩ : (⟨q.f0, q.f1 / (gOf l : Int)⟩ : S38) ∈ divG l)
    rw [h3]
    refine Nat.mul_dvd_mul_left _ ?_
    have h5 : (q.f1 / (gOf l : Int)).toNat = m := by rw [h2]; omega
    rw [← h5]
    exact h4)
  have h2 := Nat.le_of_dvd hg h1
  have h3 : 0 < gOf (divG l) := by
    refine gOf_pos (fun p hp' => ?_) (by unfold divG; simpa using hn)
    obtain ⟨q, hq, rfl⟩ := List.mem_map.1 hp'
    obtain ⟨m, h1, h2, _⟩ := div_pos' (hp q hq) hg (gOf_dvd hq)
    show 0 < q.f1 / (gOf l : Int)
    omega
  generalize gOf (divG l) = x at *
  rcases Nat.lt_or_ge 1 x with c | c
  · have := Nat.mul_lt_mul_of_pos_left c hg
    omega
  · omega
theorem divG_same {l : List S38} (h : gOf l = 1) : divG l = l := by
  unfold divG
  rw [h]
  have e3 : ∀ L : List S38, L.map (fun p => (⟨p.f0, p.f1 / ((1 : Nat) : Int)⟩ : S38)) = L := fun L => by
    induction L with
    | nil => rfl
    | cons p L ih =>
      rw [List.map_cons, ih]
      congr 1
      have : p.f1 / ((1 : Nat) : Int) = p.f1 := by rw [Int.natCast_one, Int.ediv_one]
      rw [this]
  exact e3 l
theorem make_right' {l : List S38} (h : (makeP l).2 = 0) : wrongP (makeP l).1 = 0 ∧ ∃ g : Nat, 0 < g ∧ (∀ o, wOf (makeP l).1 o * (g : Int) = wOf l o) ∧ totOf (makeP l).1 * (g : Int) = totOf l := by
  unfold makeP at h ⊢
  by_cases ho : l.all okP = true
  · rw [if_pos ho] at h ⊢
    have h0 : ∀ p ∈ l, 0 ≤ p.f1 := fun p hp => (all_ok ho p hp).1
    have hc := tidy_canon h0
    have htot := tMerge_tot l
    have hout : ∀ q ∈ tMerge (sortP l), smallB q.f0 = true := fun q hq => by
      obtain ⟨p, hp, e, _⟩ := (outs_iff hc h0 q.f0).2 ⟨q, hq, rfl⟩
      rw [← e]
      exact (okP_iff.1 (List.all_eq_true.1 ho p hp)).1
    generalize hD : tMerge (sortP l) = D at *
    unfold tDone at h ⊢
    by_cases e1 : D = []
    · rw [if_pos e1] at h; cases h
    · rw [if_neg e1] at h ⊢
      by_cases e2 : totOf D / (gOf D : Int) > 1073741824 ∨ D.length > 4096
      · rw [if_pos e2] at h; cases h
      · rw [if_neg e2]
        have hg := gOf_pos hc.pos e1
        have all : ∀ p ∈ D, 0 < p.f1 ∧ gOf D ∣ p.f1.toNat := fun p hp => ⟨hc.pos p hp, gOf_dvd hp⟩
        have hs := div_sum (gOf D : Int) (by omega) D
        have ps : ∀ p ∈ divG D, 0 < p.f1 := fun p hp => by
          obtain ⟨q, hq, rfl⟩ := List.mem_map.1 hp
          obtain ⟨m, h1, h2, _⟩ := div_pos' (hc.pos q hq) hg (gOf_dvd hq)
          show 0 < q.f1 / (gOf D : Int)
          omega
        have hO : Ord (divG D) := by
          refine ⟨?_, ps, ?_, by unfold divG; simpa using e1, ?_, by unfold divG; rw [List.length_map]; omega⟩
          · unfold Strict divG
            rw [List.pairwise_map]
            exact hc.st
          · rw [List.all_eq_true]
            intro q hq
            have h3 := one_le (l := divG D) (fun p hp => Int.le_of_lt (ps p hp)) hq
            have h4 := ps q hq
            have h5 : totOf (divG D) ≤ totOf D / (gOf D : Int) := hs
            obtain ⟨p, hp, rfl⟩ := List.mem_map.1 hq
            exact okP_iff.2 ⟨hout p hp, by omega, by omega⟩
          · have h5 : totOf (divG D) ≤ totOf D / (gOf D : Int) := hs
            omega
        have hg1 := g1_of hc.pos e1
        constructor
        · show wrongP (divG D) = 0
          unfold wrongP
          rw [hO.make, divG_same hg1]
          simp
        · refine ⟨gOf D, hg, fun o => ?_, ?_⟩
          · exact (wOf_map (gOf D) hg o D all).trans (hc.w o)
          · exact (tot_map (gOf D) hg D all).trans htot
  · rw [if_neg ho] at h; cases h
end Go.Proofs.Ytfoolbcfpedhmaa.DistPure
end
section
namespace Go.Proofs.Ytfoolbcfpedhmaa.DistPure
set_option linter.unusedVariables false
set_option linter.unusedSimpArgs false
open Go.RowKit Go.Proofs.Ytfoolbcfpedhmaa.PB Go.Proofs.YtfoolbcfpedhmaaW.PrintWords Go.Proofs.YtfoolbcfpedhmaaW.PrintLast Go.Proofs.YtfoolbcfpedhmaaW.PrintMore Go.Proofs.YtfoolbcfpedhmaaW.EvKit
theorem right_form {d : List S38} (h : wrongP d = 0) : ∃ D : List S38, (∀ p ∈ D, 0 < p.f1) ∧ D ≠ [] ∧ d = D.map (fun p => (⟨p.f0, p.f1 / (gOf D : Int)⟩ : S38)) := by
  unfold wrongP at h
  by_cases c : (makeP d).2 = 0
  · rw [if_pos c] at h
    by_cases c2 : d = (makeP d).1
    · unfold makeP at c c2
      by_cases ho : d.all okP = true
      · rw [if_pos ho] at c c2
        have hc := tidy_canon (fun p hp => (all_ok ho p hp).1)
        unfold tDone at c c2
        by_cases e1 : tMerge (sortP d) = []
        · rw [if_pos e1] at c; cases c
        · rw [if_neg e1] at c c2
          by_cases e2 : totOf (tMerge (sortP d)) / (gOf (tMerge (sortP d)) : Int) > 1073741824 ∨ (tMerge (sortP d)).length > 4096
          · rw [if_pos e2] at c; cases c
          · rw [if_neg e2] at c2
            exact ⟨_, hc.pos, e1, c2⟩
      · rw [if_neg ho] at c; cases c
    · rw [if_neg c2] at h; cases h
  · rw [if_neg c] at h; exact absurd h c
theorem right_more {d : List S38} (h : wrongP d = 0) : (∀ p ∈ d, 0 < p.f1) ∧ gOf d = 1 := by
  obtain ⟨D, h0, hn, rfl⟩ := right_form h
  have hg := gOf_pos h0 hn
  have key : ∀ p ∈ D, ∃ m : Nat, 0 < m ∧ p.f1 / (gOf D : Int) = (m : Int) ∧ p.f1.toNat = gOf D * m := fun p hp => div_pos' (h0 p hp) hg (gOf_dvd hp)
  constructor
  · intro p hp
    obtain ⟨q, hq, rfl⟩ := List.mem_map.1 hp
    obtain ⟨m, h1, h2, _⟩ := key q hq
    show 0 < q.f1 / (gOf D : Int)
    omega
  · have h1 : gOf D * gOf (D.map (fun p => (⟨p.f0, p.f1 / (gOf D : Int)⟩ : S38))) ∣ gOf D := gOf_max (fun q hq => by
      obtain ⟨m, _, h2, h3⟩ := key q hq
      have h4 := gOf_dvd (List.mem_map.2 ⟨q, hq, rfl⟩ : (⟨q.f0, q.f1 / (gOf D : Int)⟩ : S38) ∈ D.map (fun p => (⟨p.f0, p.f1 / (gOf D : Int)⟩ : S38)))
      rw [h3]
      refine Nat.mul_dvd_mul_left _ ?_
      have h5 : (q.f1 / (gOf D : Int)).toNat = m := by rw [h2]; omega
      rw [← h5]
      exact h4)
    have h2 := Nat.le_of_dvd hg h1
    have h3 : 0 < gOf (D.map (fun p => (⟨p.f0, p.f1 / (gOf D : Int)⟩ : S38))) := by
      refine gOf_pos (fun p hp => ?_) (by simpa using hn)
      obtain ⟨q, hq, rfl⟩ := List.mem_map.1 hp
      obtain ⟨m, h1, h2, _⟩ := key q hq
      show 0 < q.f1 / (gOf D : Int)
      omega
    generalize gOf (D.map (fun p => (⟨p.f0, p.f1 / (gOf D : Int)⟩ : S38))) = x at *
    rcases Nat.lt_or_ge 1 x with c | c
    · have := Nat.mul_lt_mul_of_pos_left c hg
      omega
    · omega
def pw (a b : List S38) (o : List Int) : Int × Int := (wOf a o, wOf b o)
end Go.Proofs.Ytfoolbcfpedhmaa.DistPure
end
section
namespace Go.Proofs.Ytfoolbcfpedhmaa.DistPure
set_option linter.unusedVariables false
set_option linter.unusedSimpArgs false
open Go.RowKit Go.Proofs.Ytfoolbcfpedhmaa.PB Go.Proofs.YtfoolbcfpedhmaaW.PrintWords Go.Proofs.YtfoolbcfpedhmaaW.PrintLast Go.Proofs.YtfoolbcfpedhmaaW.PrintMore Go.Proofs.YtfoolbcfpedhmaaW.EvKit
def le2 (f g : Nat × Nat) : Prop := f.1 * g.2 ≤ g.1 * f.2
def pos2 (f : Nat × Nat) : Prop := 1 ≤ f.1 ∧ 1 ≤ f.2
theorem le2_refl (f : Nat × Nat) : le2 f f := Nat.le_refl _
theorem le2_trans {f g h : Nat × Nat} (hg : 1 ≤ g.2) (h1 : le2 f g) (h2 : le2 g h) : le2 f h := by
  unfold le2 at *
  have a : f.1 * g.2 * h.2 ≤ g.1 * f.2 * h.2 := Nat.mul_le_mul_right _ h1
  have b : g.1 * h.2 * f.2 ≤ h.1 * g.2 * f.2 := Nat.mul_le_mul_right _ h2
  have c : f.1 * h.2 * g.2 ≤ h.1 * f.2 * g.2 := by
    calc f.1 * h.2 * g.2 = f.1 * g.2 * h.2 := by rw [Nat.mul_assoc, Nat.mul_comm h.2, ← Nat.mul_assoc]
      _ ≤ g.1 * f.2 * h.2 := a
      _ = g.1 * h.2 * f.2 := by rw [Nat.mul_assoc, Nat.mul_comm f.2, ← Nat.mul_assoc]
      _ ≤ h.1 * g.2 * f.2 := b
      _ = h.1 * f.2 * g.2 := by rw [Nat.mul_assoc, Nat.mul_comm g.2, ← Nat.mul_assoc]
  exact Nat.le_of_mul_le_mul_right c hg
structure Mx (s : Nat × Nat) (F : List (Nat × Nat)) : Prop where
  pos : pos2 s
  one : le2 (1, 1) s
  ub : ∀ f ∈ F, le2 f s
  got : le2 s (1, 1) ∨ ∃ f ∈ F, le2 s f
theorem Mx.start : Mx (1, 1) [] := ⟨⟨Nat.le_refl _, Nat.le_refl _⟩, le2_refl _, fun f hf => (by cases hf), .inl (le2_refl _)⟩
theorem Mx.take {s f t : Nat × Nat} {F : List (Nat × Nat)} (h : Mx s F) (ht : pos2 t) (hf : le2 s f) (h1 : le2 f t) (h2 : le2 t f) (hfp : pos2 f) : Mx t (F ++ [f]) :=
  ⟨ht, le2_trans hfp.2 (le2_trans h.pos.2 h.one hf) h1, fun g hg => by
    rcases List.mem_append.1 hg with hg | hg
    · exact le2_trans hfp.2 (le2_trans h.pos.2 (h.ub g hg) hf) h1
    · rw [List.mem_singleton.1 hg]; exact h1, .inr ⟨f, by simp, h2⟩⟩
theorem Mx.le {s t : Nat × Nat} {F G : List (Nat × Nat)} (h : Mx s F) (k : Mx t G) (hF : ∀ f ∈ F, pos2 f ∧ ∃ g ∈ G, pos2 g ∧ le2 f g) : le2 s t := by
  rcases h.got with c | ⟨f, hf, c⟩
  · exact le2_trans (Nat.le_refl 1) c k.one
  · obtain ⟨h1, g, hg, h2, h3⟩ := hF f hf
    exact le2_trans h1.2 c (le2_trans h2.2 h3 (k.ub g hg))
def uv (ta tb : Nat) (x : Int × Int) : Nat × Nat := (x.1.toNat * tb, x.2.toNat * ta)
def two (ta tb : Nat) (x : Int × Int) : List (Nat × Nat) := [uv ta tb x, (uv ta tb x).swap]
end Go.Proofs.Ytfoolbcfpedhmaa.DistPure
end
section
namespace Go.Proofs.Ytfoolbcfpedhmaa.DistPure
open Go.RowKit Go.Proofs.Ytfoolbcfpedhmaa.PB Go.Proofs.YtfoolbcfpedhmaaW.PrintWords Go.Proofs.YtfoolbcfpedhmaaW.PrintLast Go.Proofs.YtfoolbcfpedhmaaW.PrintMore Go.Proofs.YtfoolbcfpedhmaaW.EvKit
set_option linter.unusedVariables false
set_option linter.unusedSimpArgs false
end Go.Proofs.Ytfoolbcfpedhmaa.DistPure
end
section
namespace Go.Proofs.Ytfoolbcfpedhmaa.DistPure
set_option linter.unusedVariables false
set_option linter.unusedSimpArgs false
open Go.RowKit Go.Proofs.Ytfoolbcfpedhmaa.PB Go.Proofs.YtfoolbcfpedhmaaW.PrintWords Go.Proofs.YtfoolbcfpedhmaaW.PrintLast Go.Proofs.YtfoolbcfpedhmaaW.PrintMore Go.Proofs.YtfoolbcfpedhmaaW.EvKit
structure RD (d : List S38) : Prop where
  bd : Bd d
  wr : wrongP d = 0
theorem RD.right {d : List S38} (h : RD d) : Right d := right_of h.wr
theorem RD.pw {d : List S38} (h : RD d) : ∀ p ∈ d, 0 < p.f1 := (right_more h.wr).1
theorem RD.nn {d : List S38} (h : RD d) : ∀ p ∈ d, 0 ≤ p.f1 := fun p hp => Int.le_of_lt (h.pw p hp)
theorem RD.tF {d : List S38} (h : RD d) : hushref2_Total.F d = some (totOf d) := rtotF d h.bd.len h.nn (by have := h.right.few; omega)
structure Two (a b : List S38) : Prop where
  a : RD a
  b : RD b
theorem Two.t {a b : List S38} (h : Two a b) : ∃ ta tb : Nat, totOf a = (ta : Int) ∧ totOf b = (tb : Int) ∧ 1 ≤ ta ∧ ta ≤ 1073741824 ∧ 1 ≤ tb ∧ tb ≤ 1073741824 := by
  have h1 := h.a.right
  have h2 := h.b.right
  refine ⟨(totOf a).toNat, (totOf b).toNat, ?_⟩
  have := h1.pos; have := h1.few; have := h2.pos; have := h2.few
  omega
end Go.Proofs.Ytfoolbcfpedhmaa.DistPure
end
section
namespace Go.Proofs.Ytfoolbcfpedhmaa.DistPure
set_option linter.unusedVariables false
set_option linter.unusedSimpArgs false
open Go.RowKit Go.Proofs.Ytfoolbcfpedhmaa.PB Go.Proofs.YtfoolbcfpedhmaaW.PrintWords Go.Proofs.YtfoolbcfpedhmaaW.PrintLast Go.Proofs.YtfoolbcfpedhmaaW.PrintMore Go.Proofs.YtfoolbcfpedhmaaW.EvKit
end Go.Proofs.Ytfoolbcfpedhmaa.DistPure
end
section
namespace Go.Proofs.Ytfoolbcfpedhmaa.DistPure
set_option linter.unusedVariables false
set_option linter.unusedSimpArgs false
open Go.RowKit Go.Proofs.Ytfoolbcfpedhmaa.PB Go.Proofs.YtfoolbcfpedhmaaW.PrintWords Go.Proofs.YtfoolbcfpedhmaaW.PrintLast Go.Proofs.YtfoolbcfpedhmaaW.PrintMore Go.Proofs.YtfoolbcfpedhmaaW.EvKit
theorem bd_right {d : List S38} (h : wrongP d = 0) : Bd d := by
  have hr := right_of h
  have hm := hr.much
  refine ⟨by omega, fun p hp => ?_⟩
  have h1 := (okP_iff.1 (List.all_eq_true.1 hr.ok p hp)).1
  unfold smallB at h1
  rw [Bool.and_eq_true, decide_eq_true_eq] at h1
  omega
def eS (K : List Int → Rat) : List S38 → Rat
  | [] => 0
  | p :: l => (p.f1 : Rat) * K p.f0 + eS K l
theorem eS_app (K : List Int → Rat) : ∀ a b : List S38, eS K (a ++ b) = eS K a + eS K b
  | [], b => by rw [List.nil_append, eS]; grind
  | p :: a, b => by rw [List.cons_append, eS, eS, eS_app K a b]; grind
theorem eS_one (K : List Int → Rat) (p : S38) : eS K [p] = (p.f1 : Rat) * K p.f0 := by rw [eS, eS]; grind
theorem eS_perm (K : List Int → Rat) {a b : List S38} (h : a.Perm b) : eS K a = eS K b := by
  induction h with
  | nil => rfl
  | cons x _ ih => rw [eS, eS, ih]
  | swap x y l => rw [eS, eS, eS, eS]; grind
  | trans _ _ h1 h2 => rw [h1, h2]
theorem eS_step (K : List Int → Rat) (d : List S38) (p : S38) : eS K (tStep d p) = eS K d + (p.f1 : Rat) * K p.f0 := by
  by_cases h : p.f1 = 0
  · rw [tStep_zero h, h]; grind
  · rcases List.eq_nil_or_concat d with e | ⟨d', q, e⟩
    · rw [e, tStep_nil h, eS_one, eS]; grind
    · rw [List.concat_eq_append] at e
      rw [e]
      by_cases c : q.f0 = p.f0
      · rw [tStep_same h c, eS_app, eS_app, eS_one, eS_one, Rat.intCast_add]
        dsimp only
        rw [c]; grind
      · have e2 : tStep (d' ++ [q]) p = d' ++ [q] ++ [p] := by
          unfold tStep
          rw [if_neg h, List.getLast?_concat]
          dsimp only
          rw [if_neg c]
        rw [e2, eS_app, eS_one]
theorem eS_fold (K : List Int → Rat) : ∀ (l d : List S38), eS K (l.foldl tStep d) = eS K d + eS K l
  | [], d => by rw [List.foldl_nil, eS]; grind
  | p :: l, d => by rw [List.foldl_cons, eS_fold K l, eS_step, eS]; grind
theorem eS_merge (K : List Int → Rat) (l : List S38) : eS K (tMerge (sortP l)) = eS K l := by
  unfold tMerge
  rw [eS_fold, eS_perm K (sortP_perm l), eS]; grind
theorem eS_div (K : List Int → Rat) (g : Nat) (hg : 0 < g) : ∀ (L : List S38), (∀ p ∈ L, 0 < p.f1 ∧ g ∣ p.f1.toNat) → eS K (L.map (fun p => (⟨p.f0, p.f1 / (g : Int)⟩ : S38))) * ((g : Int) : Rat) = eS K L
  | [], _ => by rw [List.map_nil, eS]; grind
  | p :: L, h => by
    obtain ⟨h1, h2⟩ := h p (by simp)
    obtain ⟨m, _, h4, h5⟩ := div_pos' h1 hg h2
    have ih := eS_div K g hg L (fun q hq => h q (by simp [hq]))
    have e : p.f1 = (m : Int) * (g : Int) := by rw [← Int.natCast_mul, Nat.mul_comm, ← h5]; omega
    have e2 : (p.f1 : Rat) = ((m : Int) : Rat) * ((g : Int) : Rat) := by rw [e, Rat.intCast_mul]
    rw [List.map_cons, eS, eS]
    dsimp only
    rw [h4, e2]
    grind
theorem eS_tot : ∀ (l : List S38), eS (fun _ => 1) l = ((totOf l : Int) : Rat)
  | [] => rfl
  | p :: l => by rw [eS, eS_tot l, totOf_cons, Rat.intCast_add]; grind
theorem eS_congr {K K' : List Int → Rat} : ∀ {l : List S38}, (∀ p ∈ l, K p.f0 = K' p.f0) → eS K l = eS K' l
  | [], _ => rfl
  | p :: l, h => by rw [eS, eS, h p (by simp), eS_congr (fun q hq => h q (by simp [hq]))]
theorem eS_mul (K : List Int → Rat) (c : Rat) : ∀ (l : List S38), eS (fun x => c * K x) l = c * eS K l
  | [] => by rw [eS, eS]; grind
  | p :: l => by rw [eS, eS, eS_mul K c l]; grind
def eE (K : List Int → Rat) (d : List S38) : Rat := eS K d / ((totOf d : Int) : Rat)
theorem cast_ne {x : Int} (h : x ≠ 0) : (x : Rat) ≠ 0 := fun e => h (by exact_mod_cast e)
theorem make_E {l : List S38} (h : (makeP l).2 = 0) (K : List Int → Rat) : eE K (makeP l).1 = eE K l := by
  have h1 : ∃ g : Nat, 0 < g ∧ eS K (makeP l).1 * ((g : Int) : Rat) = eS K l ∧ eS (fun _ => 1) (makeP l).1 * ((g : Int) : Rat) = eS (fun _ => 1) l := by
    unfold makeP at h ⊢
    by_cases ho : l.all okP = true
    · rw [if_pos ho] at h ⊢
      have h0 : ∀ p ∈ l, 0 ≤ p.f1 := fun p hp => (all_ok ho p hp).1
      have hc := tidy_canon h0
      have hm := eS_merge K l
      have hm1 := eS_merge (fun _ => 1) l
      generalize tMerge (sortP l) = D at *
      unfold tDone at h ⊢
      by_cases e1 : D = []
      · rw [if_pos e1] at h; cases h
      · rw [if_neg e1] at h ⊢
        by_cases e2 : totOf D / (gOf D : Int) > 1073741824 ∨ D.length > 4096
        · rw [if_pos e2] at h; cases h
        · rw [if_neg e2]
          have hg := gOf_pos hc.pos e1
          exact ⟨gOf D, hg, (eS_div K (gOf D) hg D (fun p hp => ⟨hc.pos p hp, gOf_dvd hp⟩)).trans hm, (eS_div _ (gOf D) hg D (fun p hp => ⟨hc.pos p hp, gOf_dvd hp⟩)).trans hm1⟩
    · rw [if_neg ho] at h; cases h
  obtain ⟨g, hg, e1, e2⟩ := h1
  have hr := right_of (make_right' h).1
  have hp := hr.pos
  rw [eS_tot, eS_tot] at e2
  have hg' : ((g : Int) : Rat) ≠ 0 := cast_ne (by omega)
  have ht' : ((totOf (makeP l).1 : Int) : Rat) ≠ 0 := cast_ne (by omega)
  unfold eE
  rw [← e1, ← e2]
  grind
end Go.Proofs.Ytfoolbcfpedhmaa.DistPure
end
section
namespace Go.Proofs.Ytfoolbcfpedhmaa.DistPure
set_option linter.unusedVariables false
set_option linter.unusedSimpArgs false
open Go.RowKit Go.Proofs.Ytfoolbcfpedhmaa.PB Go.Proofs.YtfoolbcfpedhmaaW.PrintWords Go.Proofs.YtfoolbcfpedhmaaW.PrintLast Go.Proofs.YtfoolbcfpedhmaaW.PrintMore Go.Proofs.YtfoolbcfpedhmaaW.EvKit
end Go.Proofs.Ytfoolbcfpedhmaa.DistPure
end
section
namespace Go.Proofs.Ytfoolbcfpedhmaa.DistPure
set_option linter.unusedVariables false
set_option linter.unusedSimpArgs false
open Go.RowKit Go.Proofs.Ytfoolbcfpedhmaa.PB Go.Proofs.YtfoolbcfpedhmaaW.PrintWords Go.Proofs.YtfoolbcfpedhmaaW.PrintLast Go.Proofs.YtfoolbcfpedhmaaW.PrintMore Go.Proofs.YtfoolbcfpedhmaaW.EvKit
def numL (low : Int) (f : Nat → Nat) (n : Nat) : List S38 := (List.range n).map (fun (z : Nat) => (⟨[low + (z : Int)], ((f z : Nat) : Int)⟩ : S38))
theorem numL_succ (low : Int) (f : Nat → Nat) (n : Nat) : numL low f (n + 1) = numL low f n ++ [⟨[low + (n : Int)], ((f n : Nat) : Int)⟩] := by
  unfold numL; rw [List.range_succ, List.map_append]; rfl
theorem numL_len (low : Int) (f : Nat → Nat) (n : Nat) : (numL low f n).length = n := by unfold numL; simp
theorem numL_mem {low : Int} {f : Nat → Nat} {n : Nat} {p : S38} (h : p ∈ numL low f n) : ∃ z, z < n ∧ p = ⟨[low + (z : Int)], ((f z : Nat) : Int)⟩ := by
  obtain ⟨z, hz, rfl⟩ := List.mem_map.1 h
  exact ⟨z, List.mem_range.1 hz, rfl⟩
def sumN (f : Nat → Nat) : Nat → Nat
  | 0 => 0
  | n + 1 => sumN f n + f n
theorem numL_tot (low : Int) (f : Nat → Nat) : ∀ n, totOf (numL low f n) = ((sumN f n : Nat) : Int)
  | 0 => rfl
  | n + 1 => by
    have ih := numL_tot low f n
    rw [numL_succ]
    unfold totOf at *
    rw [List.map_append, isum_app, ih, sumN]
    simp [isum]
theorem numL_strict (low : Int) (f : Nat → Nat) (n : Nat) : Strict (numL low f n) := by
  unfold Strict numL
  rw [List.pairwise_map]
  refine List.pairwise_lt_range.imp (fun {a b} h => ?_)
  show cmpL [low + (a : Int)] [low + (b : Int)] < 0
  rw [cmpL, if_pos (by omega)]
  decide
theorem numL_ord {low : Int} {f : Nat → Nat} {n : Nat} (h0 : -1073741824 ≤ low) (h1 : low + (n : Int) ≤ 1073741825) (hn : 1 ≤ n) (hn2 : n ≤ 4096) (hf : ∀ z, z < n → 1 ≤ f z ∧ f z ≤ 1073741824) (ht : sumN f n ≤ 1073741824) : Ord (numL low f n) := by
  refine ⟨numL_strict low f n, ?_, ?_, ?_, by rw [numL_tot]; omega, by rw [numL_len]; omega⟩
  · intro p hp
    obtain ⟨z, hz, rfl⟩ := numL_mem hp
    have := hf z hz
    show (0 : Int) < (f z : Int)
    omega
  · rw [List.all_eq_true]
    intro p hp
    obtain ⟨z, hz, rfl⟩ := numL_mem hp
    have := hf z hz
    refine okP_iff.2 ⟨?_, ?_, ?_⟩
    · unfold smallB
      simp only [okN, List.length_cons, List.length_nil, List.all_cons, List.all_nil, Bool.and_true, Bool.and_eq_true, decide_eq_true_eq]
      omega
    · show (0 : Int) ≤ (f z : Int)
      omega
    · show (f z : Int) ≤ 1073741824
      omega
  · intro e
    have := congrArg List.length e
    rw [numL_len] at this
    simp at this
    omega
theorem numL_bd (low : Int) (f : Nat → Nat) (n : Nat) (hn : n ≤ 1048576) : Bd (numL low f n) := by
  refine ⟨by rw [numL_len]; exact hn, fun p hp => ?_⟩
  obtain ⟨z, _, rfl⟩ := numL_mem hp
  simp
end Go.Proofs.Ytfoolbcfpedhmaa.DistPure
end
section
namespace Go.Proofs.Ytfoolbcfpedhmaa.DistPure
set_option linter.unusedVariables false
set_option linter.unusedSimpArgs false
open Go.RowKit Go.Proofs.Ytfoolbcfpedhmaa.PB Go.Proofs.YtfoolbcfpedhmaaW.PrintWords Go.Proofs.YtfoolbcfpedhmaaW.PrintLast Go.Proofs.YtfoolbcfpedhmaaW.PrintMore Go.Proofs.YtfoolbcfpedhmaaW.EvKit
end Go.Proofs.Ytfoolbcfpedhmaa.DistPure
end
section
namespace Go.Proofs.Ytfoolbcfpedhmaa.RatioSpec
set_option linter.unusedVariables false
open Go.RowKit Go.Proofs.Ytfoolbcfpedhmaa.PB Go.Proofs.YtfoolbcfpedhmaaW.PrintWords Go.Proofs.YtfoolbcfpedhmaaW.PrintLast Go.Proofs.YtfoolbcfpedhmaaW.PrintMore Go.Proofs.YtfoolbcfpedhmaaW.EvKit
theorem gcd_ev : ∀ (n : Nat) (a b : Nat), b ≤ n → Ev (fun k => ratio_gcd.f k (a : Int) (b : Int)) ((Nat.gcd a b : Nat) : Int) := by
  intro n
  induction n with
  | zero =>
    intro a b hb
    obtain rfl : b = 0 := by omega
    refine Ev.step (fun k => ratio_gcd.l0.eq_2 _ _ k) (Ev.pos rfl ?_)
    rw [Nat.gcd_zero_right]
    exact Ev.ret _
  | succ n ih =>
    intro a b hb
    by_cases h0 : b = 0
    · subst h0
      refine Ev.step (fun k => ratio_gcd.l0.eq_2 _ _ k) (Ev.pos rfl ?_)
      rw [Nat.gcd_zero_right]
      exact Ev.ret _
    · refine Ev.step (fun k => ratio_gcd.l0.eq_2 _ _ k) (Ev.neg (by omega) ?_)
      have hlt := Nat.mod_lt a (show b > 0 by omega)
      have h := ih b (a % b) (by omega)
      have e : Int.tmod (a : Int) (b : Int) = ((a % b : Nat) : Int) := by
        rw [Int.tmod_eq_emod_of_nonneg (by omega)]; rfl
      rw [e, Nat.gcd_comm a b, Nat.gcd_rec b a, Nat.gcd_comm]
      exact h
def rightS (u d : Int) : Bool := decide (0 ≤ u ∧ 1 ≤ d ∧ u ≤ 1073741824 ∧ d ≤ 1073741824 ∧ Int.gcd u d = 1)
theorem gcd_evI {u d : Int} (hu : 0 ≤ u) (hd : 0 ≤ d) : Ev (fun k => ratio_gcd.f k u d) ((Int.gcd u d : Nat) : Int) := by
  obtain ⟨a, rfl⟩ := Int.eq_ofNat_of_zero_le hu
  obtain ⟨b, rfl⟩ := Int.eq_ofNat_of_zero_le hd
  exact gcd_ev b a b (Nat.le_refl _)
theorem right_g {f : Nat → Option Int} {u d : Int} (hf : 0 ≤ u → 1 ≤ d → Ev f ((Int.gcd u d : Nat) : Int)) :
    Ev (fun k => if u ≥ 0 then (if d ≥ 1 then (if u ≤ 1073741824 then (if d ≤ 1073741824 then ((f k).bind fun t => (some (t == 1))) else (some false)) else (some false)) else (some false)) else (some false)) (rightS u d) := by
  unfold rightS
  by_cases h0 : u ≥ 0
  · by_cases h1 : d ≥ 1
    · by_cases h2 : u ≤ 1073741824
      · by_cases h3 : d ≤ 1073741824
        · refine Ev.pos h0 (Ev.pos h1 (Ev.pos h2 (Ev.pos h3 (Ev.bind (hf h0 h1) (Ev.eq (Ev.ret _) ?_)))))
          rw [Bool.eq_iff_iff]
          simp [h2, h3]
          omega
        · exact Ev.pos h0 (Ev.pos h1 (Ev.pos h2 (Ev.neg h3 (Ev.eq (Ev.ret _) (by symm; simp; omega)))))
      · exact Ev.pos h0 (Ev.pos h1 (Ev.neg h2 (Ev.eq (Ev.ret _) (by symm; simp; omega))))
    · exact Ev.pos h0 (Ev.neg h1 (Ev.eq (Ev.ret _) (by symm; simp; omega)))
  · exact Ev.neg h0 (Ev.eq (Ev.ret _) (by symm; simp; omega))
theorem right_ev (u d : Int) : Ev (fun k => ratio_Right.f k u d) (rightS u d) := right_g (fun h0 h1 => gcd_evI h0 (by omega))
theorem rightS_iff {u d : Int} : rightS u d = true ↔ 0 ≤ u ∧ 1 ≤ d ∧ u ≤ 1073741824 ∧ d ≤ 1073741824 ∧ Int.gcd u d = 1 := by simp [rightS]
end Go.Proofs.Ytfoolbcfpedhmaa.RatioSpec
end
section
namespace Go.Proofs.Ytfoolbcfpedhmaa.DistPure
set_option linter.unusedVariables false
set_option linter.unusedSimpArgs false
open Go.RowKit Go.Proofs.Ytfoolbcfpedhmaa.PB Go.Proofs.YtfoolbcfpedhmaaW.PrintWords Go.Proofs.YtfoolbcfpedhmaaW.PrintLast Go.Proofs.YtfoolbcfpedhmaaW.PrintMore Go.Proofs.YtfoolbcfpedhmaaW.EvKit
def rS (u d : Int) : Bool := RatioSpec.rightS u d
def lossP (u d : Int) : Int := if rS u d = true then (if u < d then 3 else 0) else 2
theorem loss1F (u d : Int) : noise_loss.F u d = some (lossP u d) := by
  have h1 : ratio_Right.F u d = some (RatioSpec.rightS u d) := (ratio_Right.F_is u d).of_ev (RatioSpec.right_ev u d)
  rw [noise_loss.F_eq, h1, Option.bind_some]
  unfold lossP rS
  split <;> (try split) <;> rfl
theorem loss_ok {u d : Int} (h : lossP u d = 0) : ∃ a b : Nat, u = (a : Int) ∧ d = (b : Int) ∧ 1 ≤ b ∧ b ≤ a ∧ a ≤ 1073741824 ∧ Nat.gcd a b = 1 := by
  unfold lossP rS at h
  split at h
  · rename_i hr
    obtain ⟨h1, h2, h3, h4, h5⟩ := RatioSpec.rightS_iff.1 hr
    split at h
    · cases h
    · obtain ⟨a, rfl⟩ := Int.eq_ofNat_of_zero_le h1
      obtain ⟨b, rfl⟩ := Int.eq_ofNat_of_zero_le (show 0 ≤ d by omega)
      exact ⟨a, b, rfl, rfl, by omega, by omega, by omega, h5⟩
  · cases h
def dst (z t : Nat) : Nat := (z - t) + (t - z)
structure Ok (u d reach : Nat) : Prop where
  d1 : 1 ≤ d
  du : d ≤ u
  u2 : u ≤ 1073741824
  r : reach ≤ 64
  p : u ^ reach ≤ 1073741824
  q : u ^ reach * (u + d) ≤ 1073741824
theorem Ok.pw {u d reach : Nat} (h : Ok u d reach) {k : Nat} (hk : k ≤ reach) : d ^ k ≤ 1073741824 ∧ u ^ (reach - k) ≤ 1073741824 ∧ d ^ k * u ^ (reach - k) ≤ u ^ reach := by
  have hu : 1 ≤ u := Nat.le_trans h.d1 h.du
  have h1 : d ^ k ≤ u ^ k := Nat.pow_le_pow_left h.du k
  have h2 : u ^ k ≤ u ^ reach := Nat.pow_le_pow_right hu hk
  have h3 : u ^ (reach - k) ≤ u ^ reach := Nat.pow_le_pow_right hu (by omega)
  have h4 : u ^ k * u ^ (reach - k) = u ^ reach := by rw [← Nat.pow_add]; congr 1; omega
  have h5 : d ^ k * u ^ (reach - k) ≤ u ^ k * u ^ (reach - k) := Nat.mul_le_mul_right _ h1
  have := h.p
  exact ⟨by omega, by omega, by omega⟩
end Go.Proofs.Ytfoolbcfpedhmaa.DistPure
end
section
namespace Go.Proofs.Ytfoolbcfpedhmaa.DistPure
set_option linter.unusedVariables false
set_option linter.unusedSimpArgs false
open Go.RowKit Go.Proofs.Ytfoolbcfpedhmaa.PB Go.Proofs.YtfoolbcfpedhmaaW.PrintWords Go.Proofs.YtfoolbcfpedhmaaW.PrintLast Go.Proofs.YtfoolbcfpedhmaaW.PrintMore Go.Proofs.YtfoolbcfpedhmaaW.EvKit
def sayW (u d truth z : Nat) : Nat := if z = truth then u else d
theorem say_loop (u d truth many : Nat) (hm : many ≤ 4096) (ht : truth < many) (W : List Int) (hW : W = (List.replicate many (d : Int)).set truth (u : Int)) : ∀ (m i : Nat), i + m = many →
    noise_Respond.L0 (numL 0 (sayW u d truth) i) W (many : Int) (i : Int) = some (makeP (numL 0 (sayW u d truth) many)) := by
  have hl : W.length = many := by rw [hW]; simp
  intro m
  induction m with
  | zero =>
    intro i hi
    obtain rfl : i = many := by omega
    rw [noise_Respond.L0_eq, if_neg (by omega), makeF1 _ (numL_bd 0 _ i (by omega)), Option.bind_some]
  | succ m ih =>
    intro i hi
    have hlen := numL_len 0 (sayW u d truth) i
    have hrd : rd W (i : Int) = ((sayW u d truth i : Nat) : Int) := by
      unfold sayW
      rw [rd_nat, hW, List.getD_eq_getElem?_getD, List.getElem?_set]
      by_cases c : truth = i
      · rw [if_pos c, if_pos (by simpa using ht), if_pos c.symm]; rfl
      · rw [if_neg c, if_neg (fun h => c h.symm), List.getElem?_replicate, if_pos (by omega)]; rfl
    have hs := numL_succ 0 (sayW u d truth) i
    rw [Int.zero_add] at hs
    rw [noise_Respond.L0_eq, if_pos (by omega), if_pos (by omega), if_pos (by omega), if_pos (by omega), hrd, w1 (by omega), ← hs]
    exact ih (i + 1) (by omega)
inductive SayForm (u d many : Int) : Prop
  | bad (h : ∀ truth, ∃ e, e ≠ 0 ∧ noise_Respond.F u d many truth = some ([], e)) (hb : ¬ (lossP u d = 0 ∧ 1 ≤ many ∧ many ≤ 4096 ∧ u + (many - 1) * d ≤ 1073741824))
  | good (a c m : Nat) (hu : u = a) (hd : d = c) (hm : many = m) (c1 : 1 ≤ c) (ca : c ≤ a) (a2 : a ≤ 1073741824) (hco : Nat.gcd a c = 1) (m1 : 1 ≤ m) (m2 : m ≤ 4096) (hs : a + (m - 1) * c ≤ 1073741824)
      (hout : ∀ truth, truth < 0 ∨ truth ≥ many → noise_Respond.F u d many truth = some ([], 3))
      (hin : ∀ t : Nat, t < m → noise_Respond.F u d many (t : Int) = some (makeP (numL 0 (sayW a c t) m)))
theorem say_form (u d many : Int) : SayForm u d many := by
  have e1 := loss1F u d
  by_cases c : lossP u d = 0
  · have bad : ∀ truth, noise_Respond.J0 many truth true u d = some ([], 3) := fun truth => by rw [noise_Respond.J0_eq, if_pos rfl]
    by_cases c1 : many < 1
    · exact .bad (fun truth => ⟨3, by decide, by rw [noise_Respond.F_eq, e1, Option.bind_some, if_pos c, if_pos c1, bad]⟩) (fun h => by omega)
    by_cases c2 : many > 4096
    · exact .bad (fun truth => ⟨3, by decide, by rw [noise_Respond.F_eq, e1, Option.bind_some, if_pos c, if_neg c1, if_pos c2, bad]⟩) (fun h => by omega)
    have go : ∀ truth, noise_Respond.F u d many truth = (if truth < 0 then noise_Respond.J0 many truth true u d else noise_Respond.J0 many truth (decide (truth ≥ many)) u d) := fun truth => by
      rw [noise_Respond.F_eq, e1, Option.bind_some, if_pos c, if_neg c1, if_neg c2]
    have hout : ∀ truth, truth < 0 ∨ truth ≥ many → noise_Respond.F u d many truth = some ([], 3) := fun truth h => by
      rw [go]
      by_cases c3 : truth < 0
      · rw [if_pos c3, bad]
      · rw [if_neg c3, decide_eq_true (show truth ≥ many by omega), bad]
    obtain ⟨a, k, rfl, rfl, k1, ka, a2, hg⟩ := loss_ok c
    obtain ⟨m, rfl⟩ := Int.eq_ofNat_of_zero_le (show 0 ≤ many by omega)
    have hmk : (m - 1) * k ≤ 4095 * 1073741824 := Nat.mul_le_mul (by omega) (by omega)
    have ew : wrap64 ((a : Int) + wrap64 (wrap64 ((m : Int) - 1) * (k : Int))) = ((a + (m - 1) * k : Nat) : Int) := by
      have q1 : (m : Int) - 1 = ((m - 1 : Nat) : Int) := by omega
      rw [wrap64_of (x := (m : Int) - 1) (by omega) (by omega), q1, ← Int.natCast_mul, wrap64_of (x := (((m - 1) * k : Nat) : Int)) (by omega) (by omega), wrap64_of (by omega) (by omega)]
      omega
    have inn : ∀ t : Nat, t < m → noise_Respond.F (a : Int) (k : Int) (m : Int) (t : Int) = noise_Respond.J0 (m : Int) (t : Int) false (a : Int) (k : Int) := fun t ht => by
      rw [go, if_neg (by omega), decide_eq_false (by omega)]
    by_cases c4 : a + (m - 1) * k > 1073741824
    · have hb : ¬ (lossP (a : Int) (k : Int) = 0 ∧ 1 ≤ (m : Int) ∧ (m : Int) ≤ 4096 ∧ (a : Int) + ((m : Int) - 1) * (k : Int) ≤ 1073741824) := fun h => by
        have h5 := h.2.2.2
        have q1 : (m : Int) - 1 = ((m - 1 : Nat) : Int) := by omega
        rw [q1, ← Int.natCast_mul] at h5
        omega
      refine .bad (fun truth => ?_) hb
      by_cases c5 : truth < 0 ∨ truth ≥ (m : Int)
      · exact ⟨3, by decide, hout truth c5⟩
      · obtain ⟨t, rfl⟩ := Int.eq_ofNat_of_zero_le (show 0 ≤ truth by omega)
        refine ⟨4, by decide, ?_⟩
        rw [inn t (by omega), noise_Respond.J0_eq, if_neg (by decide), ew, if_pos (by omega)]
    · refine .good a k m rfl rfl rfl k1 ka a2 hg (by omega) (by omega) (by omega) hout (fun t ht => ?_)
      have e : slices_Repeat_int_int.f ([(k : Int)] : List Int) (m : Int) = some (List.replicate m (k : Int)) := by
        unfold slices_Repeat_int_int.f
        rw [if_pos ⟨rfl, by omega, by omega⟩, Int.toNat_natCast]; rfl
      have hl : (List.replicate m (k : Int)).length = m := by simp
      have hl2 : ((List.replicate m (k : Int)).set t (a : Int)).length = m := by simp
      rw [inn t ht, noise_Respond.J0_eq, if_neg (by decide), ew, if_neg (by omega), e, Option.bind_some, if_pos (by omega), hl, if_pos (by omega), Int.toNat_natCast]
      exact say_loop a k t m (by omega) ht _ rfl m 0 (by omega)
  · refine .bad (fun truth => ⟨lossP u d, c, ?_⟩) (fun h => c h.1)
    rw [noise_Respond.F_eq, e1, Option.bind_some, if_neg c]
theorem say_sum (u d t : Nat) : ∀ n, (n ≤ t → sumN (sayW u d t) n = n * d) ∧ (t < n → sumN (sayW u d t) n = u + (n - 1) * d)
  | 0 => ⟨fun _ => by simp [sumN], fun h => by omega⟩
  | n + 1 => by
    obtain ⟨h1, h2⟩ := say_sum u d t n
    constructor
    · intro h
      rw [sumN, h1 (by omega)]
      unfold sayW
      rw [if_neg (by omega), Nat.succ_mul]
    · intro h
      by_cases c : n = t
      · rw [sumN, h1 (by omega)]
        unfold sayW
        rw [if_pos c, Nat.add_sub_cancel, Nat.add_comm]
      · rw [sumN, h2 (by omega)]
        unfold sayW
        rw [if_neg c, Nat.add_sub_cancel]
        obtain ⟨j, rfl⟩ : ∃ j, n = j + 1 := ⟨n - 1, by omega⟩
        rw [Nat.add_sub_cancel, Nat.succ_mul]
        omega
end Go.Proofs.Ytfoolbcfpedhmaa.DistPure
end
section
namespace Go.Proofs.Ytfoolbcfpedhmaa.DistPure
set_option linter.unusedVariables false
set_option linter.unusedSimpArgs false
open Go.RowKit Go.Proofs.Ytfoolbcfpedhmaa.PB Go.Proofs.YtfoolbcfpedhmaaW.PrintWords Go.Proofs.YtfoolbcfpedhmaaW.PrintLast Go.Proofs.YtfoolbcfpedhmaaW.PrintMore Go.Proofs.YtfoolbcfpedhmaaW.EvKit
theorem say_zero {u d many : Int} {t : Int} (a c m : Nat) (hu : u = a) (hd : d = c) (hm : many = m) (c1 : 1 ≤ c) (ca : c ≤ a) (a2 : a ≤ 1073741824) (m1 : 1 ≤ m) (m2 : m ≤ 4096) (hs : a + (m - 1) * c ≤ 1073741824) {k : Nat} (hk : k < m) : (makeP (numL 0 (sayW a c k) m)).2 = 0 := by
  have h := (say_sum a c k m).2 hk
  have ho : Ord (numL 0 (sayW a c k) m) := numL_ord (by omega) (by omega) m1 m2 (fun z hz => by unfold sayW; split <;> omega) (by omega)
  rw [ho.make]
inductive PeopleForm (u d kinds : Int) (T : List Int) : Prop
  | bad (e : Int) (h : e ≠ 0) (hF : ∃ x, crowd_people.F u d kinds T = some (x, e))
  | good (a c m : Nat) (hu : u = a) (hd : d = c) (hm : kinds = m) (c1 : 1 ≤ c) (ca : c ≤ a) (a2 : a ≤ 1073741824) (hco : Nat.gcd a c = 1) (m1 : 1 ≤ m) (m2 : m ≤ 8) (hs : a + (m - 1) * c ≤ 1073741824) (hl : T.length ≤ 12)
      (hT : ∀ t ∈ T, 0 ≤ t ∧ t < (m : Int)) (hp : (a + (m - 1) * c) ^ T.length ≤ 1073741824) (hR : ∃ r, noise_Respond.F u d kinds 0 = some (r, 0)) (hF : crowd_people.F u d kinds T = some (((a + (m - 1) * c : Nat) : Int), 0))
theorem pow_loop (x n : Nat) (hx : 1 ≤ x) (hx2 : x ≤ 1073741824) (hn : n ≤ 12) : ∀ (m i : Nat), i + m = n → x ^ i ≤ 1073741824 →
    crowd_people.L1 (x : Int) ((x ^ i : Nat) : Int) (n : Int) (i : Int) = if x ^ n ≤ 1073741824 then some ((x : Int), 0) else some (0, 4) := by
  intro m
  induction m with
  | zero =>
    intro i hi h
    obtain rfl : i = n := by omega
    rw [crowd_people.L1_eq, if_neg (by omega), if_pos h]
  | succ m ih =>
    intro i hi h
    have hb : x ^ i * x ≤ 1073741824 * 1073741824 := Nat.mul_le_mul h hx2
    have e : wrap64 (((x ^ i : Nat) : Int) * (x : Int)) = ((x ^ (i + 1) : Nat) : Int) := by
      rw [← Int.natCast_mul, ← Nat.pow_succ, wrap64_of (by omega) (by rw [Nat.pow_succ]; omega)]
    rw [crowd_people.L1_eq, if_pos (by omega), e]
    by_cases c : x ^ (i + 1) ≤ 1073741824
    · rw [if_neg (by omega), w1 (by omega)]
      exact ih (i + 1) (by omega) c
    · have h2 : x ^ (i + 1) ≤ x ^ n := Nat.pow_le_pow_right hx (by omega)
      rw [if_pos (by omega), if_neg (by omega)]
theorem people_loop {u d kinds : Int} {T : List Int} (B : List Int) (hB : B.length ≤ 1048576) (f : SayForm u d kinds) : ∀ (m i : Nat), i + m = B.length → ((∃ e, e ≠ 0 ∧ crowd_people.L0 kinds T B (B.length : Int) (i : Int) u d = some (0, e)) ∨
    ((∀ t ∈ B.drop i, ∃ r, noise_Respond.F u d kinds t = some (r, 0)) ∧ crowd_people.L0 kinds T B (B.length : Int) (i : Int) u d = crowd_people.L1 (wrap64 (u + (wrap64 ((wrap64 (kinds - 1)) * d)))) 1 (T.length : Int) 0)) := by
  intro m
  induction m with
  | zero =>
    intro i hi
    right
    rw [List.drop_of_length_le (by omega), crowd_people.L0_eq, if_neg (by omega)]
    exact ⟨fun t ht => (by cases ht), rfl⟩
  | succ m ih =>
    intro i hi
    have hx : i < B.length := by omega
    have hr : ∃ r e, noise_Respond.F u d kinds B[i] = some (r, e) := by
      cases f with
      | bad h _ => obtain ⟨e, _, h⟩ := h B[i]; exact ⟨_, _, h⟩
      | good a c m hu hd hm c1 ca a2 hco m1 m2 hs hout hin =>
        by_cases c5 : B[i] < 0 ∨ B[i] ≥ kinds
        · exact ⟨_, _, hout _ c5⟩
        · obtain ⟨t, ht⟩ := Int.eq_ofNat_of_zero_le (show 0 ≤ B[i] by omega)
          rw [ht]
          exact ⟨_, _, hin t (by omega)⟩
    obtain ⟨r, e, hr⟩ := hr
    rw [crowd_people.L0_eq, if_pos (by omega), if_pos (by omega), if_pos (by omega), rdAt hx, hr, Option.bind_some]
    by_cases c : e = 0
    · rw [if_pos c, w1 (by omega)]
      rcases ih (i + 1) (by omega) with h | ⟨h1, h2⟩
      · exact .inl h
      · refine .inr ⟨fun t ht => ?_, h2⟩
        rw [List.drop_eq_getElem_cons hx] at ht
        rcases List.mem_cons.1 ht with h3 | h3
        · rw [h3, hr, c]; exact ⟨r, rfl⟩
        · exact h1 t h3
    · rw [if_neg c]
      exact .inl ⟨e, c, rfl⟩
theorem people_form (u d kinds : Int) (T : List Int) : PeopleForm u d kinds T := by
  have j3 : crowd_people.J0 kinds T true u d = some (0, 3) := by rw [crowd_people.J0_eq, if_pos rfl]
  by_cases k1 : kinds < 1
  · exact .bad 3 (by decide) ⟨0, by rw [crowd_people.F_eq, if_pos k1, j3]⟩
  by_cases k2 : kinds > 8
  · exact .bad 3 (by decide) ⟨0, by rw [crowd_people.F_eq, if_neg k1, decide_eq_true k2, j3]⟩
  have hF : crowd_people.F u d kinds T = crowd_people.J0 kinds T false u d := by rw [crowd_people.F_eq, if_neg k1, decide_eq_false k2]
  by_cases k3 : (T.length : Int) > 12
  · exact .bad 5 (by decide) ⟨0, by rw [hF, crowd_people.J0_eq, if_neg (by decide), if_pos k3]⟩
  have hF2 : crowd_people.F u d kinds T = crowd_people.L0 kinds T ([0] ++ T) (([0] ++ T).length : Int) 0 u d := by
    rw [hF, crowd_people.J0_eq, if_neg (by decide), if_neg k3, Option.bind_some, if_pos (by rw [List.length_singleton]; omega), Option.bind_some]
  have f := say_form u d kinds
  have hl : ([0] ++ T).length = T.length + 1 := by rw [List.length_append, List.length_singleton]; omega
  rcases people_loop (T := T) ([0] ++ T) (by omega) f _ 0 (Nat.zero_add _) with ⟨e, he, h⟩ | ⟨h1, h2⟩
  · exact .bad e he ⟨0, hF2.trans h⟩
  · cases f with
    | bad h _ =>
      obtain ⟨e, he, h⟩ := h 0
      obtain ⟨r, h3⟩ := h1 0 (by simp)
      rw [h] at h3
      simp only [Option.some.injEq, Prod.mk.injEq] at h3
      exact absurd h3.2 he
    | good a c m hu hd hm c1 ca a2 hco m1 m2 hs hout hin =>
      have hin' : ∀ t ∈ T, 0 ≤ t ∧ t < (m : Int) := fun t ht => by
        obtain ⟨r, h3⟩ := h1 t (by rw [List.drop_zero]; simp [ht])
        by_cases c5 : t < 0 ∨ t ≥ kinds
        · rw [hout t c5] at h3
          simp only [Option.some.injEq, Prod.mk.injEq] at h3
          exact absurd h3.2 (by decide)
        · omega
      have hmc : (m - 1) * c ≤ 1073741824 := by omega
      have e1 : wrap64 (u + (wrap64 ((wrap64 (kinds - 1)) * d))) = ((a + (m - 1) * c : Nat) : Int) := by
        have q1 : (m : Int) - 1 = ((m - 1 : Nat) : Int) := by omega
        rw [hu, hd, hm, wrap64_of (x := (m : Int) - 1) (by omega) (by omega), q1, ← Int.natCast_mul, wrap64_of (x := (((m - 1) * c : Nat) : Int)) (by omega) (by omega), wrap64_of (by omega) (by omega)]
        omega
      have hp := pow_loop (a + (m - 1) * c) T.length (by omega) hs (by omega) T.length 0 (Nat.zero_add _) (by simp)
      rw [Nat.pow_zero] at hp
      rw [e1] at h2
      have h4 := (hF2.trans h2).trans hp
      by_cases c6 : (a + (m - 1) * c) ^ T.length ≤ 1073741824
      · rw [if_pos c6] at h4
        exact .good a c m hu hd hm c1 ca a2 hco m1 (by omega) hs (by omega) hin' c6 (h1 0 (by simp)) h4
      · rw [if_neg c6] at h4
        exact .bad 4 (by decide) ⟨0, h4⟩
def inc (x : List Int) (k : Nat) : List Int := x.set k (x.getD k 0 + 1)
def rowC (a c t m : Nat) (p : S38) : List S38 := (List.range m).map (fun (k : Nat) => (⟨inc p.f0 k, p.f1 * ((sayW a c t k : Nat) : Int)⟩ : S38))
def stepL (a c m t : Nat) (H : List S38) : List S38 := H.flatMap (rowC a c t m)
def gath (l : List S38) : List S38 := tMerge (sortP l)
def shuf (a c m : Nat) : List Nat → List S38 → List S38
  | [], H => H
  | t :: T, H => shuf a c m T (gath (stepL a c m t H))
def kS (F : Nat → Rat) : Nat → Rat
  | 0 => 0
  | n + 1 => kS F n + F n
def opT (a c m t : Nat) (K : List Int → Rat) (x : List Int) : Rat := kS (fun k => (((sayW a c t k : Nat) : Int) : Rat) * K (inc x k)) m
theorem kS_congr {F G : Nat → Rat} : ∀ {n : Nat}, (∀ k, k < n → F k = G k) → kS F n = kS G n
  | 0, _ => rfl
  | n + 1, h => by rw [kS, kS, kS_congr (fun k hk => h k (by omega)), h n (by omega)]
theorem kS_mul (F : Nat → Rat) (x : Rat) : ∀ n, kS (fun k => x * F k) n = x * kS F n
  | 0 => by rw [kS, kS]; grind
  | n + 1 => by rw [kS, kS, kS_mul F x n]; grind
theorem kS_sumN (f : Nat → Nat) : ∀ n, kS (fun k => (((f k : Nat) : Int) : Rat)) n = (((sumN f n : Nat) : Int) : Rat)
  | 0 => rfl
  | n + 1 => by rw [kS, kS_sumN f n, sumN, Int.natCast_add, Rat.intCast_add]
theorem rowC_S (K : List Int → Rat) (a c t : Nat) (p : S38) : ∀ m, eS K (rowC a c t m p) = (p.f1 : Rat) * opT a c m t K p.f0
  | 0 => by
    unfold rowC opT
    rw [List.range_zero, List.map_nil, eS, kS]; grind
  | m + 1 => by
    have ih := rowC_S K a c t p m
    unfold rowC opT at ih ⊢
    rw [List.range_succ, List.map_append, eS_app, ih, List.map_cons, List.map_nil, eS_one, kS]
    dsimp only
    rw [Rat.intCast_mul]; grind
theorem stepL_S (K : List Int → Rat) (a c m t : Nat) : ∀ H : List S38, eS K (stepL a c m t H) = eS (opT a c m t K) H
  | [] => rfl
  | p :: H => by
    have ih := stepL_S K a c m t H
    unfold stepL at ih ⊢
    rw [List.flatMap_cons, eS_app, rowC_S, ih, eS]
theorem shuf_S (K : List Int → Rat) (a c m : Nat) : ∀ (T : List Nat) (H : List S38), eS K (shuf a c m T H) = eS (T.foldr (fun t K => opT a c m t K) K) H
  | [], H => rfl
  | t :: T, H => by
    rw [shuf, shuf_S K a c m T, List.foldr_cons]
    unfold gath
    rw [eS_merge, stepL_S]
theorem opT_one {a c m t : Nat} (ht : t < m) (v : Rat) (x : List Int) : opT a c m t (fun _ => v) x = (((a + (m - 1) * c : Nat) : Int) : Rat) * v := by
  unfold opT
  have h := (say_sum a c t m).2 ht
  have e : kS (fun k => (((sayW a c t k : Nat) : Int) : Rat) * v) m = kS (fun k => v * (((sayW a c t k : Nat) : Int) : Rat)) m := kS_congr (fun k _ => Rat.mul_comm _ _)
  rw [e, kS_mul, kS_sumN, h, Rat.mul_comm]
structure HI (m B : Nat) (H : List S38) : Prop where
  len : ∀ p ∈ H, p.f0.length = m
  ent : ∀ p ∈ H, ∀ v ∈ p.f0, 0 ≤ v ∧ v ≤ (B : Int)
  pos : ∀ p ∈ H, 0 < p.f1
theorem say_pos {a c t k : Nat} (c1 : 1 ≤ c) (ca : c ≤ a) : 1 ≤ sayW a c t k ∧ sayW a c t k ≤ a := by unfold sayW; split <;> omega
theorem HI.step {a c m B t : Nat} {H : List S38} (h : HI m B H) (c1 : 1 ≤ c) (ca : c ≤ a) : HI m (B + 1) (stepL a c m t H) := by
  have key : ∀ q ∈ stepL a c m t H, ∃ p ∈ H, ∃ k, k < m ∧ q = ⟨inc p.f0 k, p.f1 * ((sayW a c t k : Nat) : Int)⟩ := fun q hq => by
    unfold stepL rowC at hq
    rw [List.mem_flatMap] at hq
    obtain ⟨p, hp, hq⟩ := hq
    obtain ⟨k, hk, rfl⟩ := List.mem_map.1 hq
    exact ⟨p, hp, k, List.mem_range.1 hk, rfl⟩
  refine ⟨fun q hq => ?_, fun q hq v hv => ?_, fun q hq => ?_⟩
  · obtain ⟨p, hp, k, hk, rfl⟩ := key q hq
    show (inc p.f0 k).length = m
    unfold inc
    rw [List.length_set]
    exact h.len p hp
  · obtain ⟨p, hp, k, hk, rfl⟩ := key q hq
    have hl := h.len p hp
    have hv' : v ∈ p.f0.set k (p.f0.getD k 0 + 1) := hv
    rcases List.mem_or_eq_of_mem_set hv' with e | e
    · have := h.ent p hp v e
      omega
    · have h3 : p.f0.getD k 0 ∈ p.f0 := by
        rw [List.getD_eq_getElem?_getD, List.getElem?_eq_getElem (by omega)]
        exact List.getElem_mem _
      have := h.ent p hp _ h3
      omega
  · obtain ⟨p, hp, k, hk, rfl⟩ := key q hq
    have h1 := h.pos p hp
    have h2 := (say_pos (t := t) (k := k) c1 ca).1
    exact Int.mul_pos h1 (by omega)
theorem HI.gath {m B : Nat} {l : List S38} (h : HI m B l) : HI m B (gath l) := by
  have h0 : ∀ p ∈ l, 0 ≤ p.f1 := fun p hp => Int.le_of_lt (h.pos p hp)
  have hc := tidy_canon h0
  have key : ∀ q ∈ tMerge (sortP l), ∃ p ∈ l, p.f0 = q.f0 := fun q hq => by
    obtain ⟨p, hp, e, _⟩ := (outs_iff hc h0 q.f0).2 ⟨q, hq, rfl⟩
    exact ⟨p, hp, e⟩
  refine ⟨fun q hq => ?_, fun q hq v hv => ?_, fun q hq => hc.pos q hq⟩
  · obtain ⟨p, hp, e⟩ := key q hq
    rw [← e]; exact h.len p hp
  · obtain ⟨p, hp, e⟩ := key q hq
    rw [← e] at hv
    exact h.ent p hp v hv
theorem stepL_len (a c m t : Nat) : ∀ H : List S38, (stepL a c m t H).length = H.length * m
  | [] => by simp [stepL]
  | p :: H => by
    have ih := stepL_len a c m t H
    unfold stepL at ih ⊢
    rw [List.flatMap_cons, List.length_append, ih, List.length_cons, Nat.succ_mul]
    unfold rowC
    rw [List.length_map, List.length_range]
    omega
theorem stepL_tot {a c m t : Nat} (ht : t < m) (H : List S38) : totOf (stepL a c m t H) = ((a + (m - 1) * c : Nat) : Int) * totOf H := by
  have h := stepL_S (fun _ => 1) a c m t H
  rw [eS_tot, eS_congr (K' := fun _ => (((a + (m - 1) * c : Nat) : Int) : Rat) * 1) (fun p _ => opT_one ht 1 p.f0), eS_mul (fun _ => 1), eS_tot] at h
  exact_mod_cast h
theorem gath_tot (l : List S38) : totOf (gath l) = totOf l := tMerge_tot l
theorem rd38At {xs : List Int} {i : Nat} : rd xs (i : Int) = xs.getD i 0 := by unfold rd; rw [Int.toNat_natCast]
theorem gatheredF {l : List S38} (hl : l.length ≤ 100000000) (hp : ∀ p ∈ l, 0 < p.f1) (ht : totOf l ≤ 1073741824) : crowd_gathered.F l = some (gath l) := by
  refine ((crowd_gathered.F_is l).iff _).2 ⟨0, ?_⟩
  unfold crowd_gathered.f
  rw [if_pos]
  · rfl
  · unfold gGuard tGuard
    simp only [Bool.and_eq_true, decide_eq_true_eq, List.all_eq_true]
    exact ⟨⟨⟨by omega, fun p hp' => Int.le_of_lt (hp p hp')⟩, by omega⟩, hp⟩
def WS (a c m t : Nat) : List Int := (List.replicate m (c : Int)).set t (a : Int)
theorem WS_at {a c m t k : Nat} (hk : k < m) (ht : t < m) : (WS a c m t).getD k 0 = ((sayW a c t k : Nat) : Int) := by
  unfold WS sayW
  rw [List.getD_eq_getElem?_getD, List.getElem?_set]
  by_cases e : t = k
  · rw [if_pos e, if_pos (by simpa using ht), if_pos e.symm]; rfl
  · rw [if_neg e, if_neg (fun h => e h.symm), List.getElem?_replicate, if_pos hk]; rfl
theorem in_row {a c m t : Nat} (hm : m ≤ 8) (ht : t < m) (a2 : a ≤ 1073741824) (p : S38) (hp : p.f0.length = m) (he : ∀ v ∈ p.f0, 0 ≤ v ∧ v ≤ 100) (hw : 0 ≤ p.f1 ∧ p.f1 ≤ 1073741824) (c1 : 1 ≤ c) (ca : c ≤ a) (kinds : Int) (T : List Int) (x35 x36 x51 : Int) (H : List S38) (i : Int) (u d : Int) : ∀ (n k : Nat) (acc : List S38), k + n = m → acc.length + n ≤ 100000000 →
    crowd_Shuffled.L2 kinds (WS a c m t) acc T x35 x36 H x51 i (m : Int) (k : Int) u d p.f0 p.f1 = crowd_Shuffled.L1 kinds (WS a c m t) (acc ++ ((rowC a c t m p).drop k)) T x35 x36 H x51 (wrap64 (i + 1)) u d := by
  have hW : (WS a c m t).length = m := by unfold WS; rw [List.length_set, List.length_replicate]
  have hR : (rowC a c t m p).length = m := by unfold rowC; rw [List.length_map, List.length_range]
  intro n
  induction n with
  | zero =>
    intro k acc hk _
    rw [crowd_Shuffled.L2_eq, if_neg (by omega), List.drop_of_length_le (by omega), List.append_nil]
  | succ n ih =>
    intro k acc hk hacc
    have hkm : k < m := by omega
    have hcl : slices_Clone_int_int.f p.f0 = some p.f0 := by
      unfold slices_Clone_int_int.f
      rw [if_pos (by omega)]
    have hv : 0 ≤ p.f0.getD k 0 ∧ p.f0.getD k 0 ≤ 100 := by
      refine he _ ?_
      rw [List.getD_eq_getElem?_getD, List.getElem?_eq_getElem (by omega)]
      exact List.getElem_mem _
    have hs := (say_pos (t := t) (k := k) c1 ca)
    have hmul : 0 ≤ p.f1 * ((sayW a c t k : Nat) : Int) ∧ p.f1 * ((sayW a c t k : Nat) : Int) ≤ 1073741824 * 1073741824 := ⟨Int.mul_nonneg hw.1 (by omega), Int.mul_le_mul hw.2 (by omega) (by omega) (by omega)⟩
    have e1 : (⟨p.f0.set ((k : Int)).toNat (wrap64 (p.f0.getD k 0 + 1)), wrap64 (p.f1 * ((sayW a c t k : Nat) : Int))⟩ : S38) = (rowC a c t m p)[k]'(by omega) := by
      unfold rowC inc
      rw [List.getElem_map, List.getElem_range, wrap64_of (by omega) (by omega), wrap64_of (by omega) (by omega), Int.toNat_natCast]
    rw [crowd_Shuffled.L2_eq, if_pos (by omega), if_pos (by omega), if_pos (by omega), hcl, Option.bind_some, if_pos (by omega), if_pos (by omega), rd38At, rd38At, WS_at hkm ht, e1, w1 (by omega), ih (k + 1) _ (by omega) (by rw [List.length_append, List.length_singleton]; omega), List.append_assoc, List.singleton_append, ← List.drop_eq_getElem_cons]
theorem in_rows {a c m t B : Nat} (hm : m ≤ 8) (ht : t < m) (a2 : a ≤ 1073741824) (c1 : 1 ≤ c) (ca : c ≤ a) (kinds : Int) (T : List Int) (x35 x36 : Int) (H : List S38) (u d : Int) (h : HI m B H) (hB : B ≤ 100) (hl : H.length ≤ 1048576) (htot : totOf H ≤ 1073741824) : ∀ (n i : Nat) (acc : List S38), i + n = H.length → acc.length + 8 * n ≤ 50000000 →
    crowd_Shuffled.L1 kinds (WS a c m t) acc T x35 x36 H (H.length : Int) (i : Int) u d = (crowd_gathered.F (acc ++ stepL a c m t (H.drop i))).bind (fun t186 => crowd_Shuffled.L0 kinds t186 T x35 (wrap64 (x36 + 1)) u d) := by
  have hW : (WS a c m t).length = m := by unfold WS; rw [List.length_set, List.length_replicate]
  intro n
  induction n with
  | zero =>
    intro i acc hi _
    rw [crowd_Shuffled.L1_eq, if_neg (by omega), List.drop_of_length_le (by omega)]
    unfold stepL
    rw [List.flatMap_nil, List.append_nil]
  | succ n ih =>
    intro i acc hi hacc
    have hx : i < H.length := by omega
    have hp := List.getElem_mem hx
    have h1 := h.pos _ hp
    have h2 := one_le (fun p hp => Int.le_of_lt (h.pos p hp)) hp
    have hR : (rowC a c t m H[i]).length = m := by unfold rowC; rw [List.length_map, List.length_range]
    rw [crowd_Shuffled.L1_eq, if_pos (by omega), if_pos (by omega), if_pos (by omega), rd32At hx, hW,
      show (0 : Int) = ((0 : Nat) : Int) from rfl, in_row hm ht a2 H[i] (h.len _ hp) (fun v hv => by have := h.ent _ hp v hv; omega) ⟨by omega, by omega⟩ c1 ca kinds T x35 x36 (H.length : Int) H (i : Int) u d m 0 acc (Nat.zero_add _) (by omega), List.drop_zero, w1 (by omega), ih (i + 1) _ (by omega) (by rw [List.length_append, hR]; omega), List.drop_eq_getElem_cons hx]
    unfold stepL
    rw [List.flatMap_cons, List.append_assoc]
theorem shuf_loop {a c m : Nat} (hm : m ≤ 8) (m1 : 1 ≤ m) (a2 : a ≤ 1073741824) (c1 : 1 ≤ c) (ca : c ≤ a) (T : List Int) (hT : ∀ t ∈ T, 0 ≤ t ∧ t < (m : Int)) (hlen : T.length ≤ 12) : ∀ (n i : Nat) (H : List S38) (B : Nat), i + n = T.length → HI m B H → B ≤ i → H.length * m ^ n ≤ 1048576 → totOf H * (((a + (m - 1) * c) ^ n : Nat) : Int) ≤ 1073741824 → 0 ≤ totOf H →
    crowd_Shuffled.L0 (m : Int) H T (T.length : Int) (i : Int) (a : Int) (c : Int) = (dist_Make.F (shuf a c m ((T.drop i).map Int.toNat) H)).bind (fun bt174 => some (bt174.1, bt174.2)) ∧ HI m 100 (shuf a c m ((T.drop i).map Int.toNat) H) ∧ (shuf a c m ((T.drop i).map Int.toNat) H).length ≤ 1048576 ∧ totOf (shuf a c m ((T.drop i).map Int.toNat) H) = totOf H * (((a + (m - 1) * c) ^ n : Nat) : Int) := by
  intro n
  induction n with
  | zero =>
    intro i H B hi h hB hl htot h0
    rw [List.drop_of_length_le (by omega), List.map_nil, shuf, crowd_Shuffled.L0_eq, if_neg (by omega)]
    rw [Nat.pow_zero, Nat.mul_one] at hl
    refine ⟨rfl, ⟨h.len, fun p hp v hv => by have := h.ent p hp v hv; omega, h.pos⟩, hl, by rw [Nat.pow_zero]; simp⟩
  | succ n ih =>
    intro i H B hi h hB hl htot h0
    have hx : i < T.length := by omega
    have ht := hT _ (List.getElem_mem hx)
    obtain ⟨t, et⟩ := Int.eq_ofNat_of_zero_le ht.1
    have htm : t < m := by omega
    have ee : 1 ≤ a + (m - 1) * c := by omega
    generalize hE : a + (m - 1) * c = E at *
    have hpn : 1 ≤ m ^ n := Nat.pow_pos (by omega)
    have hEn : 1 ≤ E ^ n := Nat.pow_pos (by omega)
    have hHl : H.length * m ≤ 1048576 := by
      have : H.length * m * 1 ≤ H.length * m * m ^ n := Nat.mul_le_mul_left _ hpn
      rw [Nat.pow_succ, Nat.mul_comm (m ^ n) m, ← Nat.mul_assoc] at hl
      omega
    have hHl2 : H.length ≤ 1048576 := by
      have : H.length * 1 ≤ H.length * m := Nat.mul_le_mul_left _ m1
      omega
    have htE : totOf H * (E : Int) * ((E ^ n : Nat) : Int) ≤ 1073741824 := by
      rw [Nat.pow_succ, Nat.mul_comm (E ^ n) E, Int.natCast_mul, ← Int.mul_assoc] at htot
      exact htot
    have htE0 : 0 ≤ totOf H * (E : Int) := Int.mul_nonneg h0 (by omega)
    have htE1 : totOf H * (E : Int) ≤ 1073741824 := by
      have : totOf H * (E : Int) * 1 ≤ totOf H * (E : Int) * ((E ^ n : Nat) : Int) := Int.mul_le_mul_of_nonneg_left (by omega) htE0
      omega
    have htH : totOf H ≤ 1073741824 := by
      have : totOf H * 1 ≤ totOf H * (E : Int) := Int.mul_le_mul_of_nonneg_left (by omega) h0
      omega
    have hstep := h.step (a := a) (c := c) (t := t) c1 ca
    have hg := hstep.gath
    have hst : totOf (stepL a c m t H) = totOf H * (E : Int) := by rw [stepL_tot htm, hE, Int.mul_comm]
    have hgt : totOf (gath (stepL a c m t H)) = totOf H * (E : Int) := by rw [gath_tot, hst]
    have hsl := stepL_len a c m t H
    have hgl : (gath (stepL a c m t H)).length ≤ H.length * m := by
      have := tMerge_len (stepL a c m t H)
      unfold gath
      omega
    have hrep : slices_Repeat_int_int.f ([(c : Int)] : List Int) (m : Int) = some (List.replicate m (c : Int)) := by
      unfold slices_Repeat_int_int.f
      rw [if_pos ⟨rfl, by omega, by omega⟩, Int.toNat_natCast]; rfl
    have hF : crowd_gathered.F ([] ++ stepL a c m t (H.drop 0)) = some (gath (stepL a c m t H)) := by
      rw [List.nil_append, List.drop_zero]
      exact gatheredF (by omega) hstep.pos (by omega)
    have hr := in_rows hm htm a2 c1 ca (m : Int) T (T.length : Int) (i : Int) H (a : Int) (c : Int) h (by omega) hHl2 htH H.length 0 [] (Nat.zero_add _) (by rw [List.length_nil]; omega)
    rw [hF, Option.bind_some, w1 (by omega)] at hr
    have e0 : crowd_Shuffled.L0 (m : Int) H T (T.length : Int) (i : Int) (a : Int) (c : Int) = crowd_Shuffled.L0 (m : Int) (gath (stepL a c m t H)) T (T.length : Int) ((i + 1 : Nat) : Int) (a : Int) (c : Int) := by
      rw [crowd_Shuffled.L0_eq, if_pos (by omega), if_pos (by omega), if_pos (by omega), hrep, Option.bind_some, rdAt hx, et, if_pos (by omega), if_pos (by rw [List.length_replicate]; omega), Int.toNat_natCast]
      exact hr
    have nl : (gath (stepL a c m t H)).length * m ^ n ≤ 1048576 := by
      have : (gath (stepL a c m t H)).length * m ^ n ≤ H.length * m * m ^ n := Nat.mul_le_mul_right _ hgl
      rw [Nat.pow_succ, Nat.mul_comm (m ^ n) m, ← Nat.mul_assoc] at hl
      omega
    obtain ⟨r1, r2, r3, r4⟩ := ih (i + 1) (gath (stepL a c m t H)) (B + 1) (by omega) hg (by omega) nl (by rw [hgt]; exact htE) (by omega)
    have ed : (T.drop i).map Int.toNat = t :: (T.drop (i + 1)).map Int.toNat := by
      rw [List.drop_eq_getElem_cons hx, List.map_cons, et, Int.toNat_natCast]
    rw [ed, shuf, e0]
    refine ⟨r1, r2, r3, ?_⟩
    rw [r4, hgt, Nat.pow_succ, Nat.mul_comm (E ^ n) E, Int.natCast_mul, Int.mul_assoc]
def start (m : Nat) : List S38 := [⟨List.replicate m 0, 1⟩]
theorem start_HI (m : Nat) : HI m 0 (start m) := by
  unfold start
  refine ⟨fun p hp => ?_, fun p hp v hv => ?_, fun p hp => ?_⟩
  · rw [List.mem_singleton.1 hp]; exact List.length_replicate
  · rw [List.mem_singleton.1 hp] at hv
    have := (List.mem_replicate.1 hv).2
    omega
  · rw [List.mem_singleton.1 hp]
    show (0 : Int) < 1
    decide
inductive ShufForm (u d kinds : Int) (T : List Int) : Prop
  | bad (e : Int) (h : e ≠ 0) (hF : crowd_Shuffled.F u d kinds T = some ([], e))
  | good (a c m : Nat) (hu : u = a) (hd : d = c) (hm : kinds = m) (c1 : 1 ≤ c) (ca : c ≤ a) (a2 : a ≤ 1073741824) (hco : Nat.gcd a c = 1) (m1 : 1 ≤ m) (m2 : m ≤ 8) (hs : a + (m - 1) * c ≤ 1073741824) (hl : T.length ≤ 12)
      (hT : ∀ t ∈ T, 0 ≤ t ∧ t < (m : Int)) (hp : (a + (m - 1) * c) ^ T.length ≤ 1073741824) (hR : ∃ r, noise_Respond.F u d kinds 0 = some (r, 0))
      (hI : HI m 100 (shuf a c m (T.map Int.toNat) (start m))) (hb : Bd (shuf a c m (T.map Int.toNat) (start m))) (ht : totOf (shuf a c m (T.map Int.toNat) (start m)) = (((a + (m - 1) * c) ^ T.length : Nat) : Int)) (hF : crowd_Shuffled.F u d kinds T = some (makeP (shuf a c m (T.map Int.toNat) (start m))))
theorem shuf_form (u d kinds : Int) (T : List Int) (hw : 2 ≤ kinds → kinds.toNat ^ T.length ≤ 1048576) : ShufForm u d kinds T := by
  cases people_form u d kinds T with
  | bad e h hF =>
    obtain ⟨x, hF⟩ := hF
    exact .bad e h (by rw [crowd_Shuffled.F_eq, hF, Option.bind_some, if_neg h])
  | good a c m hu hd hm c1 ca a2 hco m1 m2 hs hl hT hp hR hF =>
    have hpow : 1 * m ^ T.length ≤ 1048576 := by
      rcases Nat.lt_or_ge m 2 with h | h
      · obtain rfl : m = 1 := by omega
        rw [Nat.one_pow]; omega
      · have := hw (by omega)
        rw [hm, Int.toNat_natCast] at this
        omega
    have h := shuf_loop m2 m1 a2 c1 ca T hT hl T.length 0 (start m) 0 (Nat.zero_add _) (start_HI m) (Nat.le_refl _) hpow (by show (1 : Int) * _ ≤ _; omega) (by show (0 : Int) ≤ 1; decide)
    rw [List.drop_zero] at h
    obtain ⟨r1, r2, r3, r4⟩ := h
    have hb : Bd (shuf a c m (T.map Int.toNat) (start m)) := ⟨r3, fun p hp => by have := r2.len p hp; omega⟩
    refine .good a c m hu hd hm c1 ca a2 hco m1 m2 hs hl hT hp hR r2 hb ?_ ?_
    · rw [r4]
      show (1 : Int) * _ = _
      omega
    · rw [crowd_Shuffled.F_eq, hF, Option.bind_some, if_pos rfl, if_pos (by omega), if_pos (by omega), hu, hd, hm, Int.toNat_natCast]
      refine (show _ = _ from r1).trans ?_
      rw [makeF1 _ hb]
      rfl
end Go.Proofs.Ytfoolbcfpedhmaa.DistPure
end
section
namespace Go.Proofs.Ytfoolbcfpedhmaa.DistPure
set_option linter.unusedVariables false
set_option linter.unusedSimpArgs false
open Go.RowKit Go.Proofs.Ytfoolbcfpedhmaa.PB Go.Proofs.YtfoolbcfpedhmaaW.PrintWords Go.Proofs.YtfoolbcfpedhmaaW.PrintLast Go.Proofs.YtfoolbcfpedhmaaW.PrintMore Go.Proofs.YtfoolbcfpedhmaaW.EvKit
theorem alive_say : ∃ r, noise_Respond.F 2 1 2 0 = some (r, 0) := by
  have hl : lossP 2 1 = 0 := by decide
  cases say_form 2 1 2 with
  | bad h hb => exact absurd ⟨hl, by decide, by decide, by decide⟩ hb
  | good a c m hu hd hm c1 ca a2 hco m1 m2 hs hout hin =>
    have h := hin 0 (by omega)
    have h0 := say_zero (t := 0) a c m hu hd hm c1 ca a2 m1 m2 hs (k := 0) (by omega)
    exact ⟨(makeP (numL 0 (sayW a c 0) m)).1, h.trans (congrArg some (Prod.ext rfl h0))⟩
theorem alive_people : crowd_people.F 2 1 2 [0] = some (3, 0) := by
  obtain ⟨r, hr⟩ := alive_say
  have r0 : rd ([0] ++ [0] : List Int) 0 = 0 := rfl
  have r1 : rd ([0] ++ [0] : List Int) 1 = 0 := rfl
  have q1 : wrap64 ((0 : Int) + 1) = 1 := by decide +kernel
  have q2 : wrap64 ((1 : Int) + 1) = 2 := by decide +kernel
  have q3 : wrap64 ((2 : Int) + (wrap64 ((wrap64 ((2 : Int) - 1)) * 1))) = 3 := by decide +kernel
  have q4 : wrap64 ((1 : Int) * 3) = 3 := by decide +kernel
  have l2 : ((([0] ++ [0] : List Int).length : Nat) : Int) = 2 := rfl
  have l1 : ((([0] : List Int).length : Nat) : Int) = 1 := rfl
  rw [crowd_people.F_eq, if_neg (by decide), show decide ((2 : Int) > 8) = false from rfl, crowd_people.J0_eq, if_neg (by decide), l1, if_neg (by decide), Option.bind_some, if_pos (by decide), Option.bind_some, l2,
    crowd_people.L0_eq, if_pos (by decide), if_pos (by decide), if_pos (by decide), r0, hr, Option.bind_some, if_pos rfl, q1,
    crowd_people.L0_eq, if_pos (by decide), if_pos (by decide), if_pos (by decide), r1, hr, Option.bind_some, if_pos rfl, q2,
    crowd_people.L0_eq, if_neg (by decide), q3, crowd_people.L1_eq, if_pos (by decide), q4, if_neg (by decide), q1, crowd_people.L1_eq, if_neg (by decide)]
theorem alive_gath : gath [(⟨[1, 0], 2⟩ : S38), ⟨[0, 1], 1⟩] = [⟨[0, 1], 1⟩, ⟨[1, 0], 2⟩] := by
  unfold gath
  rw [← tMerge_any (ys := [(⟨[0, 1], 1⟩ : S38), ⟨[1, 0], 2⟩]) (List.Perm.swap _ _ _) (fun p hp => by
    rcases List.mem_cons.1 hp with e | e
    · rw [e]; decide
    · rw [List.mem_singleton.1 e]; decide) (by decide)]
  rfl
theorem alive13 : hushlaw13_alive.F = some true := by
  have h := shuf_loop (a := 2) (c := 1) (m := 2) (by decide) (by decide) (by decide) (by decide) (by decide) [0] (fun t ht => by rw [List.mem_singleton.1 ht]; decide) (by decide) 1 0 (start 2) 0 rfl (start_HI 2) (Nat.le_refl _) (by decide) (by decide) (by decide)
  have e1 : shuf 2 1 2 (([0] : List Int).map Int.toNat) (start 2) = [⟨[0, 1], 1⟩, ⟨[1, 0], 2⟩] := by
    rw [List.map_cons, List.map_nil, shuf, shuf]
    exact alive_gath
  have ho : Ord [(⟨[0, 1], 1⟩ : S38), ⟨[1, 0], 2⟩] := by
    refine ⟨?_, fun p hp => ?_, by decide, by simp, by decide, by decide⟩
    · unfold Strict
      decide
    · rcases List.mem_cons.1 hp with e | e
      · rw [e]; decide
      · rw [List.mem_singleton.1 e]; decide
  obtain ⟨r1, r2, r3, r4⟩ := h
  rw [List.drop_zero, e1] at r1 r2 r3
  have hb : Bd [(⟨[0, 1], 1⟩ : S38), ⟨[1, 0], 2⟩] := ⟨r3, fun p hp => by have := r2.len p hp; omega⟩
  rw [makeF1 _ hb, ho.make, Option.bind_some] at r1
  have l1 : ((([0] : List Int).length : Nat) : Int) = 1 := rfl
  rw [l1] at r1
  rw [hushlaw13_alive.F_eq, crowd_Shuffled.F_eq, alive_people, Option.bind_some, if_pos rfl, if_pos (by decide), if_pos (by decide), l1]
  have e2 : crowd_Shuffled.L0 2 ([(⟨(List.replicate ((2 : Int)).toNat 0), 1⟩ : S38)]) [0] 1 0 2 1 = some (divG [(⟨[0, 1], 1⟩ : S38), ⟨[1, 0], 2⟩], 0) := r1
  rw [e2, Option.bind_some, if_pos rfl]
  unfold divG
  rw [List.length_map]
  rfl
end Go.Proofs.Ytfoolbcfpedhmaa.DistPure
end
section
namespace Go.Proofs.Ytfoolbcfpedhmaa.DistPure
set_option linter.unusedVariables false
set_option linter.unusedSimpArgs false
open Go.RowKit Go.Proofs.Ytfoolbcfpedhmaa.PB Go.Proofs.YtfoolbcfpedhmaaW.PrintWords Go.Proofs.YtfoolbcfpedhmaaW.PrintLast Go.Proofs.YtfoolbcfpedhmaaW.PrintMore Go.Proofs.YtfoolbcfpedhmaaW.EvKit
theorem wide_loop (k : Int) (L : Nat) (hk : 2 ≤ k) (hk2 : k ≤ 9223372036854775807) (hL : L ≤ 4611686018427387904) : ∀ (n i : Nat), i + n = L → k.toNat ^ i ≤ 1048576 →
    ∃ b, hushlaw13_wide.L0 k ((k.toNat ^ i : Nat) : Int) (L : Int) (i : Int) = some b ∧ (b = false → k.toNat ^ L ≤ 1048576) := by
  obtain ⟨q, rfl⟩ := Int.eq_ofNat_of_zero_le (show 0 ≤ k by omega)
  rw [Int.toNat_natCast]
  intro n
  induction n with
  | zero =>
    intro i hi h
    obtain rfl : i = L := by omega
    rw [hushlaw13_wide.L0_eq, if_neg (by omega)]
    exact ⟨false, rfl, fun _ => h⟩
  | succ n ih =>
    intro i hi h
    have h2 := Nat.div_mul_le_self 1048576 q
    have hq : 1048576 / q ≤ 1048576 := Nat.div_le_self _ _
    have hd : Int.tdiv (1048576 : Int) (q : Int) = ((1048576 / q : Nat) : Int) := by
      rw [show (1048576 : Int) = ((1048576 : Nat) : Int) from rfl, ← Int.ofNat_tdiv]
    generalize 1048576 / q = Q at *
    rw [hushlaw13_wide.L0_eq, if_pos (by omega), if_neg (by omega), if_neg (by omega), hd, wrap64_of (by omega) (by omega)]
    by_cases c : q ^ i > Q
    · rw [if_pos (by omega)]
      exact ⟨true, rfl, fun h => by cases h⟩
    · have hm : q ^ i * q ≤ 1048576 := by
        have h1 : q ^ i * q ≤ Q * q := Nat.mul_le_mul_right _ (by omega)
        omega
      have e : wrap64 (((q ^ i : Nat) : Int) * (q : Int)) = ((q ^ (i + 1) : Nat) : Int) := by
        rw [← Int.natCast_mul, ← Nat.pow_succ, wrap64_of (by omega) (by rw [Nat.pow_succ]; omega)]
      rw [if_neg (by omega), e, w1 (by omega)]
      exact ih (i + 1) (by omega) (by rw [Nat.pow_succ]; exact hm)
theorem wideF (k : Int) (T : List Int) (hk2 : k ≤ 9223372036854775807) (hT : T.length ≤ 4611686018427387904) : ∃ b, hushlaw13_wide.F k T = some b ∧ (b = false → 2 ≤ k → k.toNat ^ T.length ≤ 1048576) := by
  rw [hushlaw13_wide.F_eq]
  by_cases c : k < 2
  · refine ⟨false, ?_, fun _ h => by omega⟩
    rw [hushlaw13_wide.L0_eq]
    by_cases c2 : (0 : Int) < (T.length : Int)
    · rw [if_pos c2, if_pos c]
    · rw [if_neg c2]
  · obtain ⟨b, h1, h2⟩ := wide_loop k T.length (by omega) hk2 hT T.length 0 (Nat.zero_add _) (by simp)
    rw [Nat.pow_zero] at h1
    exact ⟨b, h1, fun h _ => h2 h⟩
end Go.Proofs.Ytfoolbcfpedhmaa.DistPure
end
section
namespace Go.Proofs.Ytfoolbcfpedhmaa.PB
open Go.RowKit Go.Proofs.YtfoolbcfpedhmaaW.PrintWords Go.Proofs.YtfoolbcfpedhmaaW.PrintLast Go.Proofs.YtfoolbcfpedhmaaW.PrintMore
open Go.Proofs.YtfoolbcfpedhmaaW.EvKit
set_option linter.unusedVariables false
noncomputable def crowd_gcd.L0 (x0 : Int) (x1 : Int) : Option (Int) := lim (fun k => crowd_gcd.l0 k x0 x1)
theorem crowd_gcd.L0_is (x0 : Int) (x1 : Int) : LimIs (fun k => crowd_gcd.l0 k x0 x1) (crowd_gcd.L0 x0 x1) := ⟨fun k => (crowd_gcd.mono_l k) x0 x1, rfl⟩
noncomputable def crowd_gcd.F (a0 : Int) (a1 : Int) : Option (Int) := lim (fun k => crowd_gcd.f k a0 a1)
theorem crowd_gcd.F_is (a0 : Int) (a1 : Int) : LimIs (fun k => crowd_gcd.f k a0 a1) (crowd_gcd.F a0 a1) := ⟨fun k => crowd_gcd.mono a0 a1 k, rfl⟩
set_option maxRecDepth 100000 in
theorem crowd_gcd.L0_eq (x0 : Int) (x1 : Int) : crowd_gcd.L0 x0 x1 = if x1 = 0 then (some x0) else (crowd_gcd.L0 x1 (Int.tmod x0 x1)) := by
  refine LimIs.step' (crowd_gcd.L0_is x0 x1).1 (b := fun k => if x1 = 0 then (some x0) else (crowd_gcd.l0 k x1 (Int.tmod x0 x1))) (fun k => by first | rfl | rw [crowd_gcd.l0]) ?_
  repeat' first
    | (with_reducible exact crowd_gcd.L0_is _ _)
    | (with_reducible exact LimIs.const _)
    | (with_reducible refine LimIs.ite ?_ ?_)
    | (with_reducible refine LimIs.bind ?_ (fun _ => ?_))
    | exact crowd_gcd.L0_is _ _
    | exact LimIs.const _
    | refine LimIs.ite ?_ ?_
    | refine LimIs.bind ?_ (fun _ => ?_)
set_option maxRecDepth 100000 in
theorem crowd_gcd.F_eq (a0 : Int) (a1 : Int) : crowd_gcd.F a0 a1 = crowd_gcd.L0 a0 a1 := by
  refine LimIs.out (?_ : LimIs (fun k => crowd_gcd.l0 k a0 a1) _)
  repeat' first
    | (with_reducible exact crowd_gcd.L0_is _ _)
    | (with_reducible exact LimIs.const _)
    | (with_reducible refine LimIs.ite ?_ ?_)
    | (with_reducible refine LimIs.bind ?_ (fun _ => ?_))
    | exact crowd_gcd.L0_is _ _
    | exact LimIs.const _
    | refine LimIs.ite ?_ ?_
    | refine LimIs.bind ?_ (fun _ => ?_)
end Go.Proofs.Ytfoolbcfpedhmaa.PB
end
section
namespace Go.Proofs.Ytfoolbcfpedhmaa.PB
open Go.RowKit Go.Proofs.YtfoolbcfpedhmaaW.PrintWords Go.Proofs.YtfoolbcfpedhmaaW.PrintLast Go.Proofs.YtfoolbcfpedhmaaW.PrintMore
open Go.Proofs.YtfoolbcfpedhmaaW.EvKit
set_option linter.unusedVariables false
noncomputable def crowd_Guess.L0 (x1 : List Int) (x4 : List Int) (x9 : Int) (x34 : List Int) (x35 : Int) (x36 : Int) (x201000 : Int) (x201001 : Int) : Option (List Int × Int × Int) := lim (fun k => crowd_Guess.l0 k x1 x4 x9 x34 x35 x36 x201000 x201001)
theorem crowd_Guess.L0_is (x1 : List Int) (x4 : List Int) (x9 : Int) (x34 : List Int) (x35 : Int) (x36 : Int) (x201000 : Int) (x201001 : Int) : LimIs (fun k => crowd_Guess.l0 k x1 x4 x9 x34 x35 x36 x201000 x201001) (crowd_Guess.L0 x1 x4 x9 x34 x35 x36 x201000 x201001) := ⟨fun k => (crowd_Guess.mono_l k).1 x1 x4 x9 x34 x35 x36 x201000 x201001, rfl⟩
noncomputable def crowd_Guess.L1 (x4 : List Int) (x5 : Int) (x9 : Int) (x12 : Int) (x13 : Int) (x65 : List Int) (x66 : Int) (x67 : Int) (x201000 : Int) (x201001 : Int) : Option (List Int × Int × Int) := lim (fun k => crowd_Guess.l1 k x4 x5 x9 x12 x13 x65 x66 x67 x201000 x201001)
theorem crowd_Guess.L1_is (x4 : List Int) (x5 : Int) (x9 : Int) (x12 : Int) (x13 : Int) (x65 : List Int) (x66 : Int) (x67 : Int) (x201000 : Int) (x201001 : Int) : LimIs (fun k => crowd_Guess.l1 k x4 x5 x9 x12 x13 x65 x66 x67 x201000 x201001) (crowd_Guess.L1 x4 x5 x9 x12 x13 x65 x66 x67 x201000 x201001) := ⟨fun k => (crowd_Guess.mono_l k).2.1 x4 x5 x9 x12 x13 x65 x66 x67 x201000 x201001, rfl⟩
noncomputable def crowd_Guess.L2 (x4 : List Int) (x5 : Int) (x13 : Int) (x83 : List Int) (x84 : Int) (x85 : Int) : Option (List Int × Int × Int) := lim (fun k => crowd_Guess.l2 k x4 x5 x13 x83 x84 x85)
theorem crowd_Guess.L2_is (x4 : List Int) (x5 : Int) (x13 : Int) (x83 : List Int) (x84 : Int) (x85 : Int) : LimIs (fun k => crowd_Guess.l2 k x4 x5 x13 x83 x84 x85) (crowd_Guess.L2 x4 x5 x13 x83 x84 x85) := ⟨fun k => (crowd_Guess.mono_l k).2.2.1 x4 x5 x13 x83 x84 x85, rfl⟩
noncomputable def crowd_Guess.L3 (x4 : List Int) (x5 : Int) (x13 : Int) (x97 : Int) (x98 : Int) : Option (List Int × Int × Int) := lim (fun k => crowd_Guess.l3 k x4 x5 x13 x97 x98)
theorem crowd_Guess.L3_is (x4 : List Int) (x5 : Int) (x13 : Int) (x97 : Int) (x98 : Int) : LimIs (fun k => crowd_Guess.l3 k x4 x5 x13 x97 x98) (crowd_Guess.L3 x4 x5 x13 x97 x98) := ⟨fun k => (crowd_Guess.mono_l k).2.2.2 x4 x5 x13 x97 x98, rfl⟩
noncomputable def crowd_Guess.F (a0_0 : Int) (a0_1 : Int) (l1 : List Int) : Option (List Int × Int × Int) := lim (fun k => crowd_Guess.f k a0_0 a0_1 l1)
theorem crowd_Guess.F_is (a0_0 : Int) (a0_1 : Int) (l1 : List Int) : LimIs (fun k => crowd_Guess.f k a0_0 a0_1 l1) (crowd_Guess.F a0_0 a0_1 l1) := ⟨fun k => crowd_Guess.mono a0_0 a0_1 l1 k, rfl⟩
set_option maxRecDepth 100000 in
theorem crowd_Guess.L0_eq (x1 : List Int) (x4 : List Int) (x9 : Int) (x34 : List Int) (x35 : Int) (x36 : Int) (x201000 : Int) (x201001 : Int) : crowd_Guess.L0 x1 x4 x9 x34 x35 x36 x201000 x201001 = if x36 < x35 then (if 0 ≤ x36 then (if x36 < (x34.length : Int) then (if (rd x34 x36) < 0 then (some (([] : List Int), 0, 8)) else (if (rd x34 x36) > 4096 then (some (([] : List Int), 0, 8)) else (crowd_Guess.L0 x1 x4 (wrap64 (x9 + (rd x34 x36))) x34 x35 (wrap64 (x36 + 1)) x201000 x201001))) else (none)) else (none)) else (crowd_Guess.L1 x4 (wrap64 (x201000 - x201001)) x9 (wrap64 (x201000 + (wrap64 ((wrap64 ((x1.length : Int) - 1)) * x201001)))) (wrap64 (x201000 - x201001)) x1 (x1.length : Int) 0 x201000 x201001) := by
  refine LimIs.step' (crowd_Guess.L0_is x1 x4 x9 x34 x35 x36 x201000 x201001).1 (b := fun k => if x36 < x35 then (if 0 ≤ x36 then (if x36 < (x34.length : Int) then (if (rd x34 x36) < 0 then (some (([] : List Int), 0, 8)) else (if (rd x34 x36) > 4096 then (some (([] : List Int), 0, 8)) else (crowd_Guess.l0 k x1 x4 (wrap64 (x9 + (rd x34 x36))) x34 x35 (wrap64 (x36 + 1)) x201000 x201001))) else (none)) else (none)) else (crowd_Guess.l1 k x4 (wrap64 (x201000 - x201001)) x9 (wrap64 (x201000 + (wrap64 ((wrap64 ((x1.length : Int) - 1)) * x201001)))) (wrap64 (x201000 - x201001)) x1 (x1.length : Int) 0 x201000 x201001)) (fun k => by first | rfl | rw [crowd_Guess.l0]) ?_
  repeat' first
    | (with_reducible exact crowd_Guess.L0_is _ _ _ _ _ _ _ _)
    | (with_reducible exact crowd_Guess.L1_is _ _ _ _ _ _ _ _ _ _)
    | (with_reducible exact LimIs.const _)
    | (with_reducible refine LimIs.ite ?_ ?_)
    | (with_reducible refine LimIs.bind ?_ (fun _ => ?_))
    | exact crowd_Guess.L0_is _ _ _ _ _ _ _ _
    | exact crowd_Guess.L1_is _ _ _ _ _ _ _ _ _ _
    | exact LimIs.const _
    | refine LimIs.ite ?_ ?_
    | refine LimIs.bind ?_ (fun _ => ?_)
set_option maxRecDepth 100000 in
theorem crowd_Guess.L1_eq (x4 : List Int) (x5 : Int) (x9 : Int) (x12 : Int) (x13 : Int) (x65 : List Int) (x66 : Int) (x67 : Int) (x201000 : Int) (x201001 : Int) : crowd_Guess.L1 x4 x5 x9 x12 x13 x65 x66 x67 x201000 x201001 = if x67 < x66 then (if 0 ≤ x67 then (if x67 < (x65.length : Int) then (if x4.length < 17592186044416 then (crowd_Guess.L1 (x4 ++ [wrap64 ((wrap64 ((rd x65 x67) * x12)) - (wrap64 (x9 * x201001)))]) x5 x9 x12 x13 x65 x66 (wrap64 (x67 + 1)) x201000 x201001) else (none)) else (none)) else (none)) else (crowd_Guess.L2 x4 x5 x13 x4 (x4.length : Int) 0) := by
  refine LimIs.step' (crowd_Guess.L1_is x4 x5 x9 x12 x13 x65 x66 x67 x201000 x201001).1 (b := fun k => if x67 < x66 then (if 0 ≤ x67 then (if x67 < (x65.length : Int) then (if x4.length < 17592186044416 then (crowd_Guess.l1 k (x4 ++ [wrap64 ((wrap64 ((rd x65 x67) * x12)) - (wrap64 (x9 * x201001)))]) x5 x9 x12 x13 x65 x66 (wrap64 (x67 + 1)) x201000 x201001) else (none)) else (none)) else (none)) else (crowd_Guess.l2 k x4 x5 x13 x4 (x4.length : Int) 0)) (fun k => by first | rfl | rw [crowd_Guess.l1]) ?_
  repeat' first
    | (with_reducible exact crowd_Guess.L1_is _ _ _ _ _ _ _ _ _ _)
    | (with_reducible exact crowd_Guess.L2_is _ _ _ _ _ _)
    | (with_reducible exact LimIs.const _)
    | (with_reducible refine LimIs.ite ?_ ?_)
    | (with_reducible refine LimIs.bind ?_ (fun _ => ?_))
    | exact crowd_Guess.L1_is _ _ _ _ _ _ _ _ _ _
    | exact crowd_Guess.L2_is _ _ _ _ _ _
    | exact LimIs.const _
    | refine LimIs.ite ?_ ?_
    | refine LimIs.bind ?_ (fun _ => ?_)
set_option maxRecDepth 100000 in
theorem crowd_Guess.L2_eq (x4 : List Int) (x5 : Int) (x13 : Int) (x83 : List Int) (x84 : Int) (x85 : Int) : crowd_Guess.L2 x4 x5 x13 x83 x84 x85 = if x85 < x84 then (if 0 ≤ x85 then (if x85 < (x83.length : Int) then ((crowd_gcd.F x13 (mx (rd x83 x85) (wrap64 (-(rd x83 x85))))).bind fun t209 => (crowd_Guess.L2 x4 x5 t209 x83 x84 (wrap64 (x85 + 1)))) else (none)) else (none)) else (crowd_Guess.L3 x4 x5 x13 (x4.length : Int) 0) := by
  refine LimIs.step' (crowd_Guess.L2_is x4 x5 x13 x83 x84 x85).1 (b := fun k => if x85 < x84 then (if 0 ≤ x85 then (if x85 < (x83.length : Int) then ((crowd_gcd.f k x13 (mx (rd x83 x85) (wrap64 (-(rd x83 x85))))).bind fun t209 => (crowd_Guess.l2 k x4 x5 t209 x83 x84 (wrap64 (x85 + 1)))) else (none)) else (none)) else (crowd_Guess.l3 k x4 x5 x13 (x4.length : Int) 0)) (fun k => by first | rfl | rw [crowd_Guess.l2]) ?_
  repeat' first
    | (with_reducible exact crowd_gcd.F_is _ _)
    | (with_reducible exact crowd_Guess.L2_is _ _ _ _ _ _)
    | (with_reducible exact crowd_Guess.L3_is _ _ _ _ _)
    | (with_reducible exact LimIs.const _)
    | (with_reducible refine LimIs.ite ?_ ?_)
    | (with_reducible refine LimIs.bind ?_ (fun _ => ?_))
    | exact crowd_gcd.F_is _ _
    | exact crowd_Guess.L2_is _ _ _ _ _ _
    | exact crowd_Guess.L3_is _ _ _ _ _
    | exact LimIs.const _
    | refine LimIs.ite ?_ ?_
    | refine LimIs.bind ?_ (fun _ => ?_)
set_option maxRecDepth 100000 in
theorem crowd_Guess.L3_eq (x4 : List Int) (x5 : Int) (x13 : Int) (x97 : Int) (x98 : Int) : crowd_Guess.L3 x4 x5 x13 x97 x98 = if x98 < x97 then (if 0 ≤ x98 then (if x98 < (x4.length : Int) then (if x13 = 0 then (none) else (crowd_Guess.L3 (x4.set (x98 : Int).toNat (wrap64 (Int.tdiv (rd x4 x98) x13))) x5 x13 x97 (wrap64 (x98 + 1)))) else (none)) else (none)) else (if x13 = 0 then (none) else (some (x4, wrap64 (Int.tdiv x5 x13), 0))) := by
  refine LimIs.step' (crowd_Guess.L3_is x4 x5 x13 x97 x98).1 (b := fun k => if x98 < x97 then (if 0 ≤ x98 then (if x98 < (x4.length : Int) then (if x13 = 0 then (none) else (crowd_Guess.l3 k (x4.set (x98 : Int).toNat (wrap64 (Int.tdiv (rd x4 x98) x13))) x5 x13 x97 (wrap64 (x98 + 1)))) else (none)) else (none)) else (if x13 = 0 then (none) else (some (x4, wrap64 (Int.tdiv x5 x13), 0)))) (fun k => by first | rfl | rw [crowd_Guess.l3]) ?_
  repeat' first
    | (with_reducible exact crowd_Guess.L3_is _ _ _ _ _)
    | (with_reducible exact LimIs.const _)
    | (with_reducible refine LimIs.ite ?_ ?_)
    | (with_reducible refine LimIs.bind ?_ (fun _ => ?_))
    | exact crowd_Guess.L3_is _ _ _ _ _
    | exact LimIs.const _
    | refine LimIs.ite ?_ ?_
    | refine LimIs.bind ?_ (fun _ => ?_)
set_option maxRecDepth 100000 in
theorem crowd_Guess.F_eq (a0_0 : Int) (a0_1 : Int) (l1 : List Int) : crowd_Guess.F a0_0 a0_1 l1 = (crowd_people.F a0_0 a0_1 (l1.length : Int) ([] : List Int)).bind fun bt201 => (if bt201.2 = 0 then (if a0_0 = a0_1 then (some (([] : List Int), 0, (6 : Int))) else (crowd_Guess.L0 l1 ([] : List Int) 0 l1 (l1.length : Int) 0 a0_0 a0_1)) else (some (([] : List Int), 0, bt201.2))) := by
  refine LimIs.out (?_ : LimIs (fun k => (crowd_people.f k a0_0 a0_1 (l1.length : Int) ([] : List Int)).bind fun bt201 => (if bt201.2 = 0 then (if a0_0 = a0_1 then (some (([] : List Int), 0, (6 : Int))) else (crowd_Guess.l0 k l1 ([] : List Int) 0 l1 (l1.length : Int) 0 a0_0 a0_1)) else (some (([] : List Int), 0, bt201.2)))) _)
  repeat' first
    | (with_reducible exact crowd_people.F_is _ _ _ _)
    | (with_reducible exact crowd_Guess.L0_is _ _ _ _ _ _ _ _)
    | (with_reducible exact LimIs.const _)
    | (with_reducible refine LimIs.ite ?_ ?_)
    | (with_reducible refine LimIs.bind ?_ (fun _ => ?_))
    | exact crowd_people.F_is _ _ _ _
    | exact crowd_Guess.L0_is _ _ _ _ _ _ _ _
    | exact LimIs.const _
    | refine LimIs.ite ?_ ?_
    | refine LimIs.bind ?_ (fun _ => ?_)
end Go.Proofs.Ytfoolbcfpedhmaa.PB
end
section
namespace Go.Proofs.Ytfoolbcfpedhmaa.PB
open Go.RowKit Go.Proofs.YtfoolbcfpedhmaaW.PrintWords Go.Proofs.YtfoolbcfpedhmaaW.PrintLast Go.Proofs.YtfoolbcfpedhmaaW.PrintMore
open Go.Proofs.YtfoolbcfpedhmaaW.EvKit
set_option linter.unusedVariables false
noncomputable def hushlaw13_CrowdFair.J0 (x1 : Int) (x2 : List Int) (x7 : List (S38)) (x41 : Bool) (x222000 : Int) (x222001 : Int) : Option (Bool) := lim (fun k => hushlaw13_CrowdFair.j0 k x1 x2 x7 x41 x222000 x222001)
theorem hushlaw13_CrowdFair.J0_is (x1 : Int) (x2 : List Int) (x7 : List (S38)) (x41 : Bool) (x222000 : Int) (x222001 : Int) : LimIs (fun k => hushlaw13_CrowdFair.j0 k x1 x2 x7 x41 x222000 x222001) (hushlaw13_CrowdFair.J0 x1 x2 x7 x41 x222000 x222001) := ⟨fun k => (hushlaw13_CrowdFair.mono_l k).1 x1 x2 x7 x41 x222000 x222001, rfl⟩
noncomputable def hushlaw13_CrowdFair.J1 (x1 : Int) (x2 : List Int) (x7 : List (S38)) (x53 : Bool) (x222000 : Int) (x222001 : Int) : Option (Bool) := lim (fun k => hushlaw13_CrowdFair.j1 k x1 x2 x7 x53 x222000 x222001)
theorem hushlaw13_CrowdFair.J1_is (x1 : Int) (x2 : List Int) (x7 : List (S38)) (x53 : Bool) (x222000 : Int) (x222001 : Int) : LimIs (fun k => hushlaw13_CrowdFair.j1 k x1 x2 x7 x53 x222000 x222001) (hushlaw13_CrowdFair.J1 x1 x2 x7 x53 x222000 x222001) := ⟨fun k => (hushlaw13_CrowdFair.mono_l k).2.1 x1 x2 x7 x53 x222000 x222001, rfl⟩
noncomputable def hushlaw13_CrowdFair.L0 (x1 : Int) (x2 : List Int) (x7 : List (S38)) (x9 : Int) (x10 : List Int) (x68 : List (S38)) (x69 : Int) (x70 : Int) (x222000 : Int) (x222001 : Int) : Option (Bool) := lim (fun k => hushlaw13_CrowdFair.l0 k x1 x2 x7 x9 x10 x68 x69 x70 x222000 x222001)
theorem hushlaw13_CrowdFair.L0_is (x1 : Int) (x2 : List Int) (x7 : List (S38)) (x9 : Int) (x10 : List Int) (x68 : List (S38)) (x69 : Int) (x70 : Int) (x222000 : Int) (x222001 : Int) : LimIs (fun k => hushlaw13_CrowdFair.l0 k x1 x2 x7 x9 x10 x68 x69 x70 x222000 x222001) (hushlaw13_CrowdFair.L0 x1 x2 x7 x9 x10 x68 x69 x70 x222000 x222001) := ⟨fun k => (hushlaw13_CrowdFair.mono_l k).2.2.1 x1 x2 x7 x9 x10 x68 x69 x70 x222000 x222001, rfl⟩
noncomputable def hushlaw13_CrowdFair.J3 (x1 : Int) (x2 : List Int) (x7 : List (S38)) (x9 : Int) (x10 : List Int) (x13 : List Int) (x14 : Int) (x68 : List (S38)) (x69 : Int) (x70 : Int) (x99 : Bool) (x222000 : Int) (x222001 : Int) (x233000 : List Int) (x233001 : Int) : Option (Bool) := lim (fun k => hushlaw13_CrowdFair.j3 k x1 x2 x7 x9 x10 x13 x14 x68 x69 x70 x99 x222000 x222001 x233000 x233001)
theorem hushlaw13_CrowdFair.J3_is (x1 : Int) (x2 : List Int) (x7 : List (S38)) (x9 : Int) (x10 : List Int) (x13 : List Int) (x14 : Int) (x68 : List (S38)) (x69 : Int) (x70 : Int) (x99 : Bool) (x222000 : Int) (x222001 : Int) (x233000 : List Int) (x233001 : Int) : LimIs (fun k => hushlaw13_CrowdFair.j3 k x1 x2 x7 x9 x10 x13 x14 x68 x69 x70 x99 x222000 x222001 x233000 x233001) (hushlaw13_CrowdFair.J3 x1 x2 x7 x9 x10 x13 x14 x68 x69 x70 x99 x222000 x222001 x233000 x233001) := ⟨fun k => (hushlaw13_CrowdFair.mono_l k).2.2.2.1 x1 x2 x7 x9 x10 x13 x14 x68 x69 x70 x99 x222000 x222001 x233000 x233001, rfl⟩
noncomputable def hushlaw13_CrowdFair.L1 (x1 : Int) (x2 : List Int) (x7 : List (S38)) (x9 : Int) (x10 : List Int) (x13 : List Int) (x14 : Int) (x68 : List (S38)) (x69 : Int) (x70 : Int) (x101 : Int) (x102 : Int) (x222000 : Int) (x222001 : Int) (x233000 : List Int) (x233001 : Int) : Option (Bool) := lim (fun k => hushlaw13_CrowdFair.l1 k x1 x2 x7 x9 x10 x13 x14 x68 x69 x70 x101 x102 x222000 x222001 x233000 x233001)
theorem hushlaw13_CrowdFair.L1_is (x1 : Int) (x2 : List Int) (x7 : List (S38)) (x9 : Int) (x10 : List Int) (x13 : List Int) (x14 : Int) (x68 : List (S38)) (x69 : Int) (x70 : Int) (x101 : Int) (x102 : Int) (x222000 : Int) (x222001 : Int) (x233000 : List Int) (x233001 : Int) : LimIs (fun k => hushlaw13_CrowdFair.l1 k x1 x2 x7 x9 x10 x13 x14 x68 x69 x70 x101 x102 x222000 x222001 x233000 x233001) (hushlaw13_CrowdFair.L1 x1 x2 x7 x9 x10 x13 x14 x68 x69 x70 x101 x102 x222000 x222001 x233000 x233001) := ⟨fun k => (hushlaw13_CrowdFair.mono_l k).2.2.2.2.1 x1 x2 x7 x9 x10 x13 x14 x68 x69 x70 x101 x102 x222000 x222001 x233000 x233001, rfl⟩
noncomputable def hushlaw13_CrowdFair.L2 (x2 : List Int) (x7 : List (S38)) (x9 : Int) (x10 : List Int) (x127 : Int) (x128 : Int) : Option (Bool) := lim (fun k => hushlaw13_CrowdFair.l2 k x2 x7 x9 x10 x127 x128)
theorem hushlaw13_CrowdFair.L2_is (x2 : List Int) (x7 : List (S38)) (x9 : Int) (x10 : List Int) (x127 : Int) (x128 : Int) : LimIs (fun k => hushlaw13_CrowdFair.l2 k x2 x7 x9 x10 x127 x128) (hushlaw13_CrowdFair.L2 x2 x7 x9 x10 x127 x128) := ⟨fun k => (hushlaw13_CrowdFair.mono_l k).2.2.2.2.2.1 x2 x7 x9 x10 x127 x128, rfl⟩
noncomputable def hushlaw13_CrowdFair.L3 (x2 : List Int) (x7 : List (S38)) (x9 : Int) (x10 : List Int) (x17 : Int) (x18 : Int) (x127 : Int) (x128 : Int) (x131 : List Int) (x132 : Int) (x133 : Int) : Option (Bool) := lim (fun k => hushlaw13_CrowdFair.l3 k x2 x7 x9 x10 x17 x18 x127 x128 x131 x132 x133)
theorem hushlaw13_CrowdFair.L3_is (x2 : List Int) (x7 : List (S38)) (x9 : Int) (x10 : List Int) (x17 : Int) (x18 : Int) (x127 : Int) (x128 : Int) (x131 : List Int) (x132 : Int) (x133 : Int) : LimIs (fun k => hushlaw13_CrowdFair.l3 k x2 x7 x9 x10 x17 x18 x127 x128 x131 x132 x133) (hushlaw13_CrowdFair.L3 x2 x7 x9 x10 x17 x18 x127 x128 x131 x132 x133) := ⟨fun k => (hushlaw13_CrowdFair.mono_l k).2.2.2.2.2.2 x2 x7 x9 x10 x17 x18 x127 x128 x131 x132 x133, rfl⟩
noncomputable def hushlaw13_CrowdFair.F (a0_0 : Int) (a0_1 : Int) (a1 : Int) (l2 : List Int) : Option (Bool) := lim (fun k => hushlaw13_CrowdFair.f k a0_0 a0_1 a1 l2)
theorem hushlaw13_CrowdFair.F_is (a0_0 : Int) (a0_1 : Int) (a1 : Int) (l2 : List Int) : LimIs (fun k => hushlaw13_CrowdFair.f k a0_0 a0_1 a1 l2) (hushlaw13_CrowdFair.F a0_0 a0_1 a1 l2) := ⟨fun k => hushlaw13_CrowdFair.mono a0_0 a0_1 a1 l2 k, rfl⟩
set_option maxRecDepth 100000 in
theorem hushlaw13_CrowdFair.J0_eq (x1 : Int) (x2 : List Int) (x7 : List (S38)) (x41 : Bool) (x222000 : Int) (x222001 : Int) : hushlaw13_CrowdFair.J0 x1 x2 x7 x41 x222000 x222001 = if x41 = true then (some true) else (if x1 < 1 then (hushlaw13_CrowdFair.J1 x1 x2 x7 true x222000 x222001) else (if (x7.length : Int) = 0 then (hushlaw13_CrowdFair.J1 x1 x2 x7 true x222000 x222001) else (hushlaw13_CrowdFair.J1 x1 x2 x7 (decide (x222000 > 1000)) x222000 x222001))) := by
  refine LimIs.step' (hushlaw13_CrowdFair.J0_is x1 x2 x7 x41 x222000 x222001).1 (b := fun k => if x41 = true then (some true) else (if x1 < 1 then (hushlaw13_CrowdFair.j1 k x1 x2 x7 true x222000 x222001) else (if (x7.length : Int) = 0 then (hushlaw13_CrowdFair.j1 k x1 x2 x7 true x222000 x222001) else (hushlaw13_CrowdFair.j1 k x1 x2 x7 (decide (x222000 > 1000)) x222000 x222001)))) (fun k => by first | rfl | rw [hushlaw13_CrowdFair.j0]) ?_
  repeat' first
    | (with_reducible exact hushlaw13_CrowdFair.J1_is _ _ _ _ _ _)
    | (with_reducible exact LimIs.const _)
    | (with_reducible refine LimIs.ite ?_ ?_)
    | (with_reducible refine LimIs.bind ?_ (fun _ => ?_))
    | exact hushlaw13_CrowdFair.J1_is _ _ _ _ _ _
    | exact LimIs.const _
    | refine LimIs.ite ?_ ?_
    | refine LimIs.bind ?_ (fun _ => ?_)
set_option maxRecDepth 100000 in
theorem hushlaw13_CrowdFair.J1_eq (x1 : Int) (x2 : List Int) (x7 : List (S38)) (x53 : Bool) (x222000 : Int) (x222001 : Int) : hushlaw13_CrowdFair.J1 x1 x2 x7 x53 x222000 x222001 = if x53 = true then (if x1 ≥ 1 then (some (decide ((x7.length : Int) > 0))) else (some false)) else (if 0 ≤ x1 then (if (x1 : Int).toNat ≤ 35184372088832 then (hushlaw13_CrowdFair.L0 x1 x2 x7 (wrap64 (x222000 - x222001)) (List.replicate (x1 : Int).toNat 0) x7 (x7.length : Int) 0 x222000 x222001) else (none)) else (none)) := by
  refine LimIs.step' (hushlaw13_CrowdFair.J1_is x1 x2 x7 x53 x222000 x222001).1 (b := fun k => if x53 = true then (if x1 ≥ 1 then (some (decide ((x7.length : Int) > 0))) else (some false)) else (if 0 ≤ x1 then (if (x1 : Int).toNat ≤ 35184372088832 then (hushlaw13_CrowdFair.l0 k x1 x2 x7 (wrap64 (x222000 - x222001)) (List.replicate (x1 : Int).toNat 0) x7 (x7.length : Int) 0 x222000 x222001) else (none)) else (none))) (fun k => by first | rfl | rw [hushlaw13_CrowdFair.j1]) ?_
  repeat' first
    | (with_reducible exact hushlaw13_CrowdFair.L0_is _ _ _ _ _ _ _ _ _ _)
    | (with_reducible exact LimIs.const _)
    | (with_reducible refine LimIs.ite ?_ ?_)
    | (with_reducible refine LimIs.bind ?_ (fun _ => ?_))
    | exact hushlaw13_CrowdFair.L0_is _ _ _ _ _ _ _ _ _ _
    | exact LimIs.const _
    | refine LimIs.ite ?_ ?_
    | refine LimIs.bind ?_ (fun _ => ?_)
set_option maxRecDepth 100000 in
theorem hushlaw13_CrowdFair.L0_eq (x1 : Int) (x2 : List Int) (x7 : List (S38)) (x9 : Int) (x10 : List Int) (x68 : List (S38)) (x69 : Int) (x70 : Int) (x222000 : Int) (x222001 : Int) : hushlaw13_CrowdFair.L0 x1 x2 x7 x9 x10 x68 x69 x70 x222000 x222001 = if x70 < x69 then (if 0 ≤ x70 then (if x70 < (x68.length : Int) then ((crowd_Guess.F x222000 x222001 ((rd_T38 x68 x70).f0)).bind fun bt233 => (if bt233.2.2 = 0 then (if (bt233.1.length : Int) = x1 then (if bt233.2.1 < 1 then (hushlaw13_CrowdFair.J3 x1 x2 x7 x9 x10 bt233.1 bt233.2.1 x68 x69 x70 true x222000 x222001 ((rd_T38 x68 x70).f0) ((rd_T38 x68 x70).f1)) else (if bt233.2.1 = 0 then (none) else (hushlaw13_CrowdFair.J3 x1 x2 x7 x9 x10 bt233.1 bt233.2.1 x68 x69 x70 ((Int.tmod x9 bt233.2.1) != 0) x222000 x222001 ((rd_T38 x68 x70).f0) ((rd_T38 x68 x70).f1)))) else (hushlaw13_CrowdFair.J3 x1 x2 x7 x9 x10 bt233.1 bt233.2.1 x68 x69 x70 true x222000 x222001 ((rd_T38 x68 x70).f0) ((rd_T38 x68 x70).f1))) else (hushlaw13_CrowdFair.J3 x1 x2 x7 x9 x10 bt233.1 bt233.2.1 x68 x69 x70 true x222000 x222001 ((rd_T38 x68 x70).f0) ((rd_T38 x68 x70).f1)))) else (none)) else (none)) else (hushlaw13_CrowdFair.L2 x2 x7 x9 x10 (x10.length : Int) 0) := by
  refine LimIs.step' (hushlaw13_CrowdFair.L0_is x1 x2 x7 x9 x10 x68 x69 x70 x222000 x222001).1 (b := fun k => if x70 < x69 then (if 0 ≤ x70 then (if x70 < (x68.length : Int) then ((crowd_Guess.f k x222000 x222001 ((rd_T38 x68 x70).f0)).bind fun bt233 => (if bt233.2.2 = 0 then (if (bt233.1.length : Int) = x1 then (if bt233.2.1 < 1 then (hushlaw13_CrowdFair.j3 k x1 x2 x7 x9 x10 bt233.1 bt233.2.1 x68 x69 x70 true x222000 x222001 ((rd_T38 x68 x70).f0) ((rd_T38 x68 x70).f1)) else (if bt233.2.1 = 0 then (none) else (hushlaw13_CrowdFair.j3 k x1 x2 x7 x9 x10 bt233.1 bt233.2.1 x68 x69 x70 ((Int.tmod x9 bt233.2.1) != 0) x222000 x222001 ((rd_T38 x68 x70).f0) ((rd_T38 x68 x70).f1)))) else (hushlaw13_CrowdFair.j3 k x1 x2 x7 x9 x10 bt233.1 bt233.2.1 x68 x69 x70 true x222000 x222001 ((rd_T38 x68 x70).f0) ((rd_T38 x68 x70).f1))) else (hushlaw13_CrowdFair.j3 k x1 x2 x7 x9 x10 bt233.1 bt233.2.1 x68 x69 x70 true x222000 x222001 ((rd_T38 x68 x70).f0) ((rd_T38 x68 x70).f1)))) else (none)) else (none)) else (hushlaw13_CrowdFair.l2 k x2 x7 x9 x10 (x10.length : Int) 0)) (fun k => by first | rfl | rw [hushlaw13_CrowdFair.l0]) ?_
  repeat' first
    | (with_reducible exact crowd_Guess.F_is _ _ _)
    | (with_reducible exact hushlaw13_CrowdFair.J3_is _ _ _ _ _ _ _ _ _ _ _ _ _ _ _)
    | (with_reducible exact hushlaw13_CrowdFair.L2_is _ _ _ _ _ _)
    | (with_reducible exact LimIs.const _)
    | (with_reducible refine LimIs.ite ?_ ?_)
    | (with_reducible refine LimIs.bind ?_ (fun _ => ?_))
    | exact crowd_Guess.F_is _ _ _
    | exact hushlaw13_CrowdFair.J3_is _ _ _ _ _ _ _ _ _ _ _ _ _ _ _
    | exact hushlaw13_CrowdFair.L2_is _ _ _ _ _ _
    | exact LimIs.const _
    | refine LimIs.ite ?_ ?_
    | refine LimIs.bind ?_ (fun _ => ?_)
set_option maxRecDepth 100000 in
theorem hushlaw13_CrowdFair.J3_eq (x1 : Int) (x2 : List Int) (x7 : List (S38)) (x9 : Int) (x10 : List Int) (x13 : List Int) (x14 : Int) (x68 : List (S38)) (x69 : Int) (x70 : Int) (x99 : Bool) (x222000 : Int) (x222001 : Int) (x233000 : List Int) (x233001 : Int) : hushlaw13_CrowdFair.J3 x1 x2 x7 x9 x10 x13 x14 x68 x69 x70 x99 x222000 x222001 x233000 x233001 = if x99 = true then (some false) else (hushlaw13_CrowdFair.L1 x1 x2 x7 x9 x10 x13 x14 x68 x69 x70 (x10.length : Int) 0 x222000 x222001 x233000 x233001) := by
  refine LimIs.step' (hushlaw13_CrowdFair.J3_is x1 x2 x7 x9 x10 x13 x14 x68 x69 x70 x99 x222000 x222001 x233000 x233001).1 (b := fun k => if x99 = true then (some false) else (hushlaw13_CrowdFair.l1 k x1 x2 x7 x9 x10 x13 x14 x68 x69 x70 (x10.length : Int) 0 x222000 x222001 x233000 x233001)) (fun k => by first | rfl | rw [hushlaw13_CrowdFair.j3]) ?_
  repeat' first
    | (with_reducible exact hushlaw13_CrowdFair.L1_is _ _ _ _ _ _ _ _ _ _ _ _ _ _ _ _)
    | (with_reducible exact LimIs.const _)
    | (with_reducible refine LimIs.ite ?_ ?_)
    | (with_reducible refine LimIs.bind ?_ (fun _ => ?_))
    | exact hushlaw13_CrowdFair.L1_is _ _ _ _ _ _ _ _ _ _ _ _ _ _ _ _
    | exact LimIs.const _
    | refine LimIs.ite ?_ ?_
    | refine LimIs.bind ?_ (fun _ => ?_)
set_option maxRecDepth 100000 in
theorem hushlaw13_CrowdFair.L1_eq (x1 : Int) (x2 : List Int) (x7 : List (S38)) (x9 : Int) (x10 : List Int) (x13 : List Int) (x14 : Int) (x68 : List (S38)) (x69 : Int) (x70 : Int) (x101 : Int) (x102 : Int) (x222000 : Int) (x222001 : Int) (x233000 : List Int) (x233001 : Int) : hushlaw13_CrowdFair.L1 x1 x2 x7 x9 x10 x13 x14 x68 x69 x70 x101 x102 x222000 x222001 x233000 x233001 = if x102 < x101 then (if 0 ≤ x102 then (if x102 < (x10.length : Int) then (if x102 < (x13.length : Int) then (if x14 = 0 then (none) else (hushlaw13_CrowdFair.L1 x1 x2 x7 x9 (x10.set (x102 : Int).toNat (wrap64 ((rd x10 x102) + (wrap64 ((wrap64 (x233001 * (rd x13 x102))) * (wrap64 (Int.tdiv x9 x14))))))) x13 x14 x68 x69 x70 x101 (wrap64 (x102 + 1)) x222000 x222001 x233000 x233001)) else (none)) else (none)) else (none)) else (hushlaw13_CrowdFair.L0 x1 x2 x7 x9 x10 x68 x69 (wrap64 (x70 + 1)) x222000 x222001) := by
  refine LimIs.step' (hushlaw13_CrowdFair.L1_is x1 x2 x7 x9 x10 x13 x14 x68 x69 x70 x101 x102 x222000 x222001 x233000 x233001).1 (b := fun k => if x102 < x101 then (if 0 ≤ x102 then (if x102 < (x10.length : Int) then (if x102 < (x13.length : Int) then (if x14 = 0 then (none) else (hushlaw13_CrowdFair.l1 k x1 x2 x7 x9 (x10.set (x102 : Int).toNat (wrap64 ((rd x10 x102) + (wrap64 ((wrap64 (x233001 * (rd x13 x102))) * (wrap64 (Int.tdiv x9 x14))))))) x13 x14 x68 x69 x70 x101 (wrap64 (x102 + 1)) x222000 x222001 x233000 x233001)) else (none)) else (none)) else (none)) else (hushlaw13_CrowdFair.l0 k x1 x2 x7 x9 x10 x68 x69 (wrap64 (x70 + 1)) x222000 x222001)) (fun k => by first | rfl | rw [hushlaw13_CrowdFair.l1]) ?_
  repeat' first
    | (with_reducible exact hushlaw13_CrowdFair.L1_is _ _ _ _ _ _ _ _ _ _ _ _ _ _ _ _)
    | (with_reducible exact hushlaw13_CrowdFair.L0_is _ _ _ _ _ _ _ _ _ _)
    | (with_reducible exact LimIs.const _)
    | (with_reducible refine LimIs.ite ?_ ?_)
    | (with_reducible refine LimIs.bind ?_ (fun _ => ?_))
    | exact hushlaw13_CrowdFair.L1_is _ _ _ _ _ _ _ _ _ _ _ _ _ _ _ _
    | exact hushlaw13_CrowdFair.L0_is _ _ _ _ _ _ _ _ _ _
    | exact LimIs.const _
    | refine LimIs.ite ?_ ?_
    | refine LimIs.bind ?_ (fun _ => ?_)
set_option maxRecDepth 100000 in
theorem hushlaw13_CrowdFair.L2_eq (x2 : List Int) (x7 : List (S38)) (x9 : Int) (x10 : List Int) (x127 : Int) (x128 : Int) : hushlaw13_CrowdFair.L2 x2 x7 x9 x10 x127 x128 = if x128 < x127 then (hushlaw13_CrowdFair.L3 x2 x7 x9 x10 x128 0 x127 x128 x2 (x2.length : Int) 0) else (some true) := by
  refine LimIs.step' (hushlaw13_CrowdFair.L2_is x2 x7 x9 x10 x127 x128).1 (b := fun k => if x128 < x127 then (hushlaw13_CrowdFair.l3 k x2 x7 x9 x10 x128 0 x127 x128 x2 (x2.length : Int) 0) else (some true)) (fun k => by first | rfl | rw [hushlaw13_CrowdFair.l2]) ?_
  repeat' first
    | (with_reducible exact hushlaw13_CrowdFair.L3_is _ _ _ _ _ _ _ _ _ _ _)
    | (with_reducible exact LimIs.const _)
    | (with_reducible refine LimIs.ite ?_ ?_)
    | (with_reducible refine LimIs.bind ?_ (fun _ => ?_))
    | exact hushlaw13_CrowdFair.L3_is _ _ _ _ _ _ _ _ _ _ _
    | exact LimIs.const _
    | refine LimIs.ite ?_ ?_
    | refine LimIs.bind ?_ (fun _ => ?_)
set_option maxRecDepth 100000 in
theorem hushlaw13_CrowdFair.L3_eq (x2 : List Int) (x7 : List (S38)) (x9 : Int) (x10 : List Int) (x17 : Int) (x18 : Int) (x127 : Int) (x128 : Int) (x131 : List Int) (x132 : Int) (x133 : Int) : hushlaw13_CrowdFair.L3 x2 x7 x9 x10 x17 x18 x127 x128 x131 x132 x133 = if x133 < x132 then (if 0 ≤ x133 then (if x133 < (x131.length : Int) then (if (rd x131 x133) = x17 then (hushlaw13_CrowdFair.L3 x2 x7 x9 x10 x17 (wrap64 (x18 + 1)) x127 x128 x131 x132 (wrap64 (x133 + 1))) else (hushlaw13_CrowdFair.L3 x2 x7 x9 x10 x17 x18 x127 x128 x131 x132 (wrap64 (x133 + 1)))) else (none)) else (none)) else (if 0 ≤ x17 then (if x17 < (x10.length : Int) then ((hushref2_Total.F x7).bind fun t243 => (if (rd x10 x17) = (wrap64 ((wrap64 (x18 * x9)) * t243)) then (hushlaw13_CrowdFair.L2 x2 x7 x9 x10 x127 (wrap64 (x128 + 1))) else (some false))) else (none)) else (none)) := by
  refine LimIs.step' (hushlaw13_CrowdFair.L3_is x2 x7 x9 x10 x17 x18 x127 x128 x131 x132 x133).1 (b := fun k => if x133 < x132 then (if 0 ≤ x133 then (if x133 < (x131.length : Int) then (if (rd x131 x133) = x17 then (hushlaw13_CrowdFair.l3 k x2 x7 x9 x10 x17 (wrap64 (x18 + 1)) x127 x128 x131 x132 (wrap64 (x133 + 1))) else (hushlaw13_CrowdFair.l3 k x2 x7 x9 x10 x17 x18 x127 x128 x131 x132 (wrap64 (x133 + 1)))) else (none)) else (none)) else (if 0 ≤ x17 then (if x17 < (x10.length : Int) then ((hushref2_Total.f k x7).bind fun t243 => (if (rd x10 x17) = (wrap64 ((wrap64 (x18 * x9)) * t243)) then (hushlaw13_CrowdFair.l2 k x2 x7 x9 x10 x127 (wrap64 (x128 + 1))) else (some false))) else (none)) else (none))) (fun k => by first | rfl | rw [hushlaw13_CrowdFair.l3]) ?_
  repeat' first
    | (with_reducible exact hushlaw13_CrowdFair.L3_is _ _ _ _ _ _ _ _ _ _ _)
    | (with_reducible exact hushref2_Total.F_is _)
    | (with_reducible exact hushlaw13_CrowdFair.L2_is _ _ _ _ _ _)
    | (with_reducible exact LimIs.const _)
    | (with_reducible refine LimIs.ite ?_ ?_)
    | (with_reducible refine LimIs.bind ?_ (fun _ => ?_))
    | exact hushlaw13_CrowdFair.L3_is _ _ _ _ _ _ _ _ _ _ _
    | exact hushref2_Total.F_is _
    | exact hushlaw13_CrowdFair.L2_is _ _ _ _ _ _
    | exact LimIs.const _
    | refine LimIs.ite ?_ ?_
    | refine LimIs.bind ?_ (fun _ => ?_)
set_option maxRecDepth 100000 in
theorem hushlaw13_CrowdFair.F_eq (a0_0 : Int) (a0_1 : Int) (a1 : Int) (l2 : List Int) : hushlaw13_CrowdFair.F a0_0 a0_1 a1 l2 = (hushlaw13_alive.F).bind fun t222 => (if t222 = true then ((hushlaw13_wide.F a1 l2).bind fun t223 => (if t223 = true then (some true) else ((crowd_Shuffled.F a0_0 a0_1 a1 l2).bind fun bt224 => (if bt224.2 = 0 then (hushlaw13_CrowdFair.J0 a1 l2 bt224.1 (a0_0 == a0_1) a0_0 a0_1) else (hushlaw13_CrowdFair.J0 a1 l2 bt224.1 true a0_0 a0_1))))) else (some false)) := by
  refine LimIs.out (?_ : LimIs (fun k => (hushlaw13_alive.f k).bind fun t222 => (if t222 = true then ((hushlaw13_wide.f k a1 l2).bind fun t223 => (if t223 = true then (some true) else ((crowd_Shuffled.f k a0_0 a0_1 a1 l2).bind fun bt224 => (if bt224.2 = 0 then (hushlaw13_CrowdFair.j0 k a1 l2 bt224.1 (a0_0 == a0_1) a0_0 a0_1) else (hushlaw13_CrowdFair.j0 k a1 l2 bt224.1 true a0_0 a0_1))))) else (some false))) _)
  repeat' first
    | (with_reducible exact hushlaw13_alive.F_is)
    | (with_reducible exact hushlaw13_wide.F_is _ _)
    | (with_reducible exact crowd_Shuffled.F_is _ _ _ _)
    | (with_reducible exact hushlaw13_CrowdFair.J0_is _ _ _ _ _ _)
    | (with_reducible exact LimIs.const _)
    | (with_reducible refine LimIs.ite ?_ ?_)
    | (with_reducible refine LimIs.bind ?_ (fun _ => ?_))
    | exact hushlaw13_alive.F_is
    | exact hushlaw13_wide.F_is _ _
    | exact crowd_Shuffled.F_is _ _ _ _
    | exact hushlaw13_CrowdFair.J0_is _ _ _ _ _ _
    | exact LimIs.const _
    | refine LimIs.ite ?_ ?_
    | refine LimIs.bind ?_ (fun _ => ?_)
end Go.Proofs.Ytfoolbcfpedhmaa.PB
end
section
namespace Go.Proofs.Ytfoolbcfpedhmaa.DistPure
set_option linter.unusedVariables false
set_option linter.unusedSimpArgs false
open Go.RowKit Go.Proofs.Ytfoolbcfpedhmaa.PB Go.Proofs.YtfoolbcfpedhmaaW.PrintWords Go.Proofs.YtfoolbcfpedhmaaW.PrintLast Go.Proofs.YtfoolbcfpedhmaaW.PrintMore Go.Proofs.YtfoolbcfpedhmaaW.EvKit
def gU (E c : Int) (k : Nat) (x : List Int) : Int := x.getD k 0 * E - isum x * c
theorem isum_inc : ∀ (x : List Int) (j : Nat), j < x.length → isum (inc x j) = isum x + 1
  | [], j, h => by simp at h
  | v :: x, 0, _ => by
    unfold inc
    rw [List.set_cons_zero, isum, isum, List.getD_cons_zero]
    omega
  | v :: x, j + 1, h => by
    have ih := isum_inc x j (by simpa using h)
    unfold inc at ih ⊢
    rw [List.set_cons_succ, isum, isum, List.getD_cons_succ, ih]
    omega
theorem inc_at {x : List Int} {j k : Nat} (h : j < x.length) : (inc x j).getD k 0 = x.getD k 0 + (if j = k then 1 else 0) := by
  unfold inc
  rw [List.getD_eq_getElem?_getD, List.getElem?_set]
  by_cases e : j = k
  · rw [if_pos e, if_pos h, if_pos e, ← e]; rfl
  · rw [if_neg e, if_neg e, ← List.getD_eq_getElem?_getD, Int.add_zero]
theorem gU_inc {E c : Int} {x : List Int} {j k : Nat} (h : j < x.length) : gU E c k (inc x j) = gU E c k x + (if j = k then E else 0) - c := by
  unfold gU
  rw [inc_at h, isum_inc x j h]
  by_cases e : j = k
  · rw [if_pos e, if_pos e]; grind
  · rw [if_neg e, if_neg e]; grind
def cnt (k : Nat) : List Nat → Nat
  | [] => 0
  | t :: T => (if t = k then 1 else 0) + cnt k T
theorem kS_add (F G : Nat → Rat) : ∀ n, kS (fun k => F k + G k) n = kS F n + kS G n
  | 0 => by rw [kS, kS, kS]; grind
  | n + 1 => by rw [kS, kS, kS, kS_add F G n]; grind
theorem kS_pick (F : Nat → Rat) (k : Nat) : ∀ n, kS (fun j => if j = k then F j else 0) n = if k < n then F k else 0
  | 0 => by rw [kS, if_neg (by omega)]
  | n + 1 => by
    rw [kS, kS_pick F k n]
    by_cases c : k < n
    · rw [if_pos c, if_neg (by omega), if_pos (by omega)]; grind
    · rw [if_neg c]
      by_cases c2 : n = k
      · rw [if_pos c2, if_pos (by omega), c2]; grind
      · rw [if_neg c2, if_neg (by omega)]; grind
theorem op_gU {a c m t k : Nat} (ca : c ≤ a) (ht : t < m) (hk : k < m) (v : Rat) {x : List Int} (hx : x.length = m) :
    opT a c m t (fun y => ((gU ((a + (m - 1) * c : Nat) : Int) (c : Int) k y : Int) : Rat) + v) x = (((a + (m - 1) * c : Nat) : Int) : Rat) * (((gU ((a + (m - 1) * c : Nat) : Int) (c : Int) k x : Int) : Rat) + v + ((((if t = k then 1 else 0) * (a - c) : Nat) : Int) : Rat)) := by
  generalize hE : a + (m - 1) * c = E
  have hs := (say_sum a c t m).2 ht
  rw [hE] at hs
  unfold opT
  have e1 : kS (fun j => (((sayW a c t j : Nat) : Int) : Rat) * (((gU (E : Int) (c : Int) k (inc x j) : Int) : Rat) + v)) m = kS (fun j => (((gU (E : Int) (c : Int) k x : Int) : Rat) + v - ((c : Int) : Rat)) * (((sayW a c t j : Nat) : Int) : Rat) + (if j = k then (((sayW a c t j : Nat) : Int) : Rat) * ((E : Int) : Rat) else 0)) m := by
    refine kS_congr (fun j hj => ?_)
    rw [gU_inc (by omega), Rat.intCast_sub, Rat.intCast_add]
    by_cases e : j = k
    · rw [if_pos e, if_pos e]; grind
    · rw [if_neg e, if_neg e, Rat.intCast_zero]; grind
  rw [e1, kS_add, kS_mul, kS_sumN, hs, kS_pick (fun j => (((sayW a c t j : Nat) : Int) : Rat) * ((E : Int) : Rat)), if_pos hk]
  have e2 : (((sayW a c t k : Nat) : Int) : Rat) = ((c : Int) : Rat) + ((((if t = k then 1 else 0) * (a - c) : Nat) : Int) : Rat) := by
    have h3 : ((sayW a c t k : Nat) : Int) = (c : Int) + (((if t = k then 1 else 0) * (a - c) : Nat) : Int) := by
      unfold sayW
      by_cases e : k = t
      · rw [if_pos e, if_pos e.symm, Nat.one_mul]; omega
      · rw [if_neg e, if_neg (fun h => e h.symm), Nat.zero_mul]; omega
    rw [h3, Rat.intCast_add]
  rw [e2]
  grind
theorem folds_gU {a c m k : Nat} (ca : c ≤ a) (hk : k < m) : ∀ (T : List Nat), (∀ t ∈ T, t < m) → ∀ x : List Int, x.length = m →
    T.foldr (fun t K => opT a c m t K) (fun y => ((gU ((a + (m - 1) * c : Nat) : Int) (c : Int) k y : Int) : Rat)) x = ((((a + (m - 1) * c) ^ T.length : Nat) : Int) : Rat) * (((gU ((a + (m - 1) * c : Nat) : Int) (c : Int) k x : Int) : Rat) + (((cnt k T * (a - c) : Nat) : Int) : Rat))
  | [], _, x, _ => by
    rw [List.foldr_nil, List.length_nil, Nat.pow_zero, cnt, Nat.zero_mul]
    have h1 : (((1 : Nat) : Int) : Rat) = 1 := rfl
    have h0 : (((0 : Nat) : Int) : Rat) = 0 := rfl
    rw [h1, h0]; grind
  | t :: T, hT, x, hx => by
    have ih := folds_gU (a := a) (c := c) ca hk T (fun q hq => hT q (by simp [hq]))
    have ht := hT t (by simp)
    rw [List.foldr_cons]
    have e1 : opT a c m t (T.foldr (fun t K => opT a c m t K) (fun y => ((gU ((a + (m - 1) * c : Nat) : Int) (c : Int) k y : Int) : Rat))) x = opT a c m t (fun y => ((((a + (m - 1) * c) ^ T.length : Nat) : Int) : Rat) * (((gU ((a + (m - 1) * c : Nat) : Int) (c : Int) k y : Int) : Rat) + (((cnt k T * (a - c) : Nat) : Int) : Rat))) x := by
      unfold opT
      refine kS_congr (fun j hj => ?_)
      have hl : (inc x j).length = m := by unfold inc; rw [List.length_set]; exact hx
      have h2 := ih (inc x j) hl
      unfold opT at h2
      rw [h2]
    have e2 : opT a c m t (fun y => ((((a + (m - 1) * c) ^ T.length : Nat) : Int) : Rat) * (((gU ((a + (m - 1) * c : Nat) : Int) (c : Int) k y : Int) : Rat) + (((cnt k T * (a - c) : Nat) : Int) : Rat))) x = ((((a + (m - 1) * c) ^ T.length : Nat) : Int) : Rat) * opT a c m t (fun y => ((gU ((a + (m - 1) * c : Nat) : Int) (c : Int) k y : Int) : Rat) + (((cnt k T * (a - c) : Nat) : Int) : Rat)) x := by
      unfold opT
      rw [← kS_mul]
      exact kS_congr (fun j _ => by grind)
    rw [e1, e2, op_gU ca ht hk _ hx]
    have e3 : ((((a + (m - 1) * c) ^ (t :: T).length : Nat) : Int) : Rat) = ((((a + (m - 1) * c) ^ T.length : Nat) : Int) : Rat) * (((a + (m - 1) * c : Nat) : Int) : Rat) := by
      rw [List.length_cons, Nat.pow_succ, Int.natCast_mul, Rat.intCast_mul]
    have e4 : (((cnt k (t :: T) * (a - c) : Nat) : Int) : Rat) = ((((if t = k then 1 else 0) * (a - c) : Nat) : Int) : Rat) + (((cnt k T * (a - c) : Nat) : Int) : Rat) := by
      rw [cnt, Nat.add_mul, Int.natCast_add, Rat.intCast_add]
    rw [e3, e4]
    grind
def gF (E c : Int) (k : Nat) (l : List S38) : Int := isum (l.map (fun p => p.f1 * gU E c k p.f0))
theorem gF_S (E c : Int) (k : Nat) : ∀ l : List S38, eS (fun y => ((gU E c k y : Int) : Rat)) l = ((gF E c k l : Int) : Rat)
  | [] => rfl
  | p :: l => by
    have ih := gF_S E c k l
    unfold gF at ih ⊢
    rw [eS, ih, List.map_cons, isum, Rat.intCast_add, Rat.intCast_mul]
theorem fair_sum {a c m k : Nat} (ca : c ≤ a) (hk : k < m) (T : List Nat) (hT : ∀ t ∈ T, t < m) (ht : totOf (shuf a c m T (start m)) = (((a + (m - 1) * c) ^ T.length : Nat) : Int)) (h : (makeP (shuf a c m T (start m))).2 = 0) :
    gF ((a + (m - 1) * c : Nat) : Int) (c : Int) k (makeP (shuf a c m T (start m))).1 = ((cnt k T * (a - c) : Nat) : Int) * totOf (makeP (shuf a c m T (start m))).1 := by
  have h1 := shuf_S (fun y => ((gU ((a + (m - 1) * c : Nat) : Int) (c : Int) k y : Int) : Rat)) a c m T (start m)
  have h2 : eS (T.foldr (fun t K => opT a c m t K) (fun y => ((gU ((a + (m - 1) * c : Nat) : Int) (c : Int) k y : Int) : Rat))) (start m) = ((((a + (m - 1) * c) ^ T.length : Nat) : Int) : Rat) * (((cnt k T * (a - c) : Nat) : Int) : Rat) := by
    unfold start
    rw [eS_one]
    dsimp only
    rw [folds_gU ca hk T hT _ List.length_replicate]
    have z : gU ((a + (m - 1) * c : Nat) : Int) (c : Int) k (List.replicate m 0) = 0 := by
      unfold gU
      have z1 : (List.replicate m (0 : Int)).getD k 0 = 0 := by
        rw [List.getD_eq_getElem?_getD, List.getElem?_replicate, if_pos hk]; rfl
      have z2 : ∀ n, isum (List.replicate n (0 : Int)) = 0 := fun n => by
        induction n with
        | zero => rfl
        | succ n ih => rw [List.replicate_succ, isum, ih]; rfl
      rw [z1, z2]; simp
    rw [z, Rat.intCast_zero, Rat.intCast_one]; grind
  rw [h2] at h1
  have h3 := make_E h (fun y => ((gU ((a + (m - 1) * c : Nat) : Int) (c : Int) k y : Int) : Rat))
  unfold eE at h3
  rw [h1, ht, gF_S] at h3
  have hr := (right_of (make_right' h).1).pos
  have t0 : ((totOf (makeP (shuf a c m T (start m))).1 : Int) : Rat) ≠ 0 := cast_ne (by omega)
  have hp := ht
  have e0 : ((((a + (m - 1) * c) ^ T.length : Nat) : Int) : Rat) ≠ 0 := by
    refine cast_ne ?_
    rw [← ht]
    obtain ⟨_, g, hg, _, hgt⟩ := make_right' h
    rw [← hgt]
    exact Int.ne_of_gt (Int.mul_pos hr (by omega))
  have h4 : ((gF ((a + (m - 1) * c : Nat) : Int) (c : Int) k (makeP (shuf a c m T (start m))).1 : Int) : Rat) = (((cnt k T * (a - c) : Nat) : Int) : Rat) * ((totOf (makeP (shuf a c m T (start m))).1 : Int) : Rat) := by grind
  exact_mod_cast h4
theorem cgcd_loop : ∀ (b a : Nat), crowd_gcd.L0 (a : Int) (b : Int) = some ((Nat.gcd b a : Nat) : Int) := by
  intro b
  induction b using Nat.strongRecOn with
  | _ b ih =>
    intro a
    rw [crowd_gcd.L0_eq]
    by_cases c : b = 0
    · rw [if_pos (by omega), c, Nat.gcd_zero_left]
    · rw [if_neg (by omega), ← Int.ofNat_tmod, ih (a % b) (Nat.mod_lt _ (by omega)) b]
      congr 2
      rw [← Nat.gcd_rec]
theorem cgcdF (t : Nat) (v : Int) (hv : -9223372036854775807 ≤ v ∧ v ≤ 9223372036854775807) : crowd_gcd.F (t : Int) (mx v (wrap64 (-v))) = some ((Nat.gcd v.natAbs t : Nat) : Int) := by
  have e : mx v (wrap64 (-v)) = ((v.natAbs : Nat) : Int) := by
    rw [wrap64_of (by omega) (by omega)]
    unfold mx
    split <;> omega
  rw [e, crowd_gcd.F_eq, cgcd_loop]
theorem people_nil {a c m : Nat} (c1 : 1 ≤ c) (ca : c ≤ a) (m1 : 1 ≤ m) (m2 : m ≤ 8) (hs : a + (m - 1) * c ≤ 1073741824) (hR : ∃ r, noise_Respond.F (a : Int) (c : Int) (m : Int) 0 = some (r, 0)) : crowd_people.F (a : Int) (c : Int) (m : Int) [] = some (((a + (m - 1) * c : Nat) : Int), 0) := by
  obtain ⟨r, hr⟩ := hR
  have e1 : wrap64 ((a : Int) + (wrap64 ((wrap64 ((m : Int) - 1)) * (c : Int)))) = ((a + (m - 1) * c : Nat) : Int) := by
    have q1 : (m : Int) - 1 = ((m - 1 : Nat) : Int) := by omega
    rw [wrap64_of (x := (m : Int) - 1) (by omega) (by omega), q1, ← Int.natCast_mul, wrap64_of (x := (((m - 1) * c : Nat) : Int)) (by omega) (by omega), wrap64_of (by omega) (by omega)]
    omega
  have r0 : rd ([0] ++ ([] : List Int)) 0 = 0 := rfl
  have q1 : wrap64 ((0 : Int) + 1) = 1 := by decide +kernel
  have l1 : ((([0] ++ ([] : List Int)).length : Nat) : Int) = 1 := rfl
  have l0 : ((([] : List Int).length : Nat) : Int) = 0 := rfl
  rw [crowd_people.F_eq, if_neg (by omega), decide_eq_false (show ¬ (m : Int) > 8 by omega), crowd_people.J0_eq, if_neg (by decide), l0, if_neg (by decide), Option.bind_some, if_pos (by decide), Option.bind_some, l1,
    crowd_people.L0_eq, if_pos (by decide), if_pos (by decide), if_pos (by decide), r0, hr, Option.bind_some, if_pos rfl, q1, crowd_people.L0_eq, if_neg (by decide), l0, crowd_people.L1_eq, if_neg (by decide), e1]
theorem isum_take_bd {x : List Int} (he : ∀ v ∈ x, 0 ≤ v ∧ v ≤ 100) : 0 ≤ isum x ∧ isum x ≤ 100 * (x.length : Int) := by
  induction x with
  | nil => exact ⟨Int.le_refl _, by simp [isum]⟩
  | cons v x ih =>
    have h1 := ih (fun w hw => he w (by simp [hw]))
    have h2 := he v (by simp)
    rw [isum, List.length_cons]
    omega
theorem guess_sum (x : List Int) (hx : x.length ≤ 8) (he : ∀ v ∈ x, 0 ≤ v ∧ v ≤ 100) (u d : Int) : ∀ (n i : Nat), i + n = x.length →
    crowd_Guess.L0 x [] (isum (x.take i)) x (x.length : Int) (i : Int) u d = crowd_Guess.L1 [] (wrap64 (u - d)) (isum x) (wrap64 (u + (wrap64 ((wrap64 ((x.length : Int) - 1)) * d)))) (wrap64 (u - d)) x (x.length : Int) 0 u d := by
  intro n
  induction n with
  | zero =>
    intro i hi
    rw [crowd_Guess.L0_eq, if_neg (by omega), List.take_of_length_le (by omega)]
  | succ n ih =>
    intro i hi
    have hlt : i < x.length := by omega
    have hv := he _ (List.getElem_mem hlt)
    have hb := isum_take_bd (x := x.take i) (fun v hv => he v (List.mem_of_mem_take hv))
    rw [List.length_take] at hb
    have e : isum (x.take (i + 1)) = isum (x.take i) + x[i] := by
      rw [List.take_succ_eq_append_getElem hlt, isum_app]
      simp [isum]
    rw [crowd_Guess.L0_eq, if_pos (by omega), if_pos (by omega), if_pos (by omega), rdAt hlt, if_neg (by omega), if_neg (by omega), wrap64_of (by omega) (by omega), ← e, w1 (by omega)]
    exact ih (i + 1) (by omega)
def gL (E c : Int) (x : List Int) : List Int := (List.range x.length).map (fun (k : Nat) => gU E c k x)
theorem gL_len (E c : Int) (x : List Int) : (gL E c x).length = x.length := by unfold gL; rw [List.length_map, List.length_range]
theorem gL_at {E c : Int} {x : List Int} {k : Nat} (h : k < x.length) : (gL E c x)[k]'(by rw [gL_len]; exact h) = gU E c k x := by
  unfold gL
  rw [List.getElem_map, List.getElem_range]
theorem gU_bd {E c : Int} {x : List Int} {k : Nat} (hx : x.length ≤ 8) (he : ∀ v ∈ x, 0 ≤ v ∧ v ≤ 100) (hk : k < x.length) (hE : 0 ≤ E ∧ E ≤ 8000) (hc : 0 ≤ c ∧ c ≤ 1000) : (0 ≤ x.getD k 0 * E ∧ x.getD k 0 * E ≤ 800000) ∧ (0 ≤ isum x * c ∧ isum x * c ≤ 800000) := by
  have hv : 0 ≤ x.getD k 0 ∧ x.getD k 0 ≤ 100 := by
    refine he _ ?_
    rw [List.getD_eq_getElem?_getD, List.getElem?_eq_getElem hk]
    exact List.getElem_mem _
  have hb := isum_take_bd he
  have h1 : x.getD k 0 * E ≤ 100 * 8000 := Int.mul_le_mul hv.2 hE.2 hE.1 (by omega)
  have h2 : isum x * c ≤ 800 * 1000 := Int.mul_le_mul (by omega) hc.2 hc.1 (by omega)
  exact ⟨⟨Int.mul_nonneg hv.1 hE.1, by omega⟩, ⟨Int.mul_nonneg hb.1 hc.1, by omega⟩⟩
theorem guess_ups (x : List Int) (hx : x.length ≤ 8) (he : ∀ v ∈ x, 0 ≤ v ∧ v ≤ 100) (D E u c : Int) (hE : 0 ≤ E ∧ E ≤ 8000) (hc : 0 ≤ c ∧ c ≤ 1000) : ∀ (n i : Nat), i + n = x.length →
    crowd_Guess.L1 ((gL E c x).take i) D (isum x) E D x (x.length : Int) (i : Int) u c = crowd_Guess.L2 (gL E c x) D D (gL E c x) (x.length : Int) 0 := by
  have hl := gL_len E c x
  intro n
  induction n with
  | zero =>
    intro i hi
    rw [crowd_Guess.L1_eq, if_neg (by omega), List.take_of_length_le (by omega), hl]
  | succ n ih =>
    intro i hi
    have hlt : i < x.length := by omega
    obtain ⟨b1, b2⟩ := gU_bd hx he hlt hE hc
    have e : (gL E c x).take i ++ [gU E c i x] = (gL E c x).take (i + 1) := by
      rw [List.take_succ_eq_append_getElem (by omega), gL_at hlt]
    have e2 : wrap64 ((wrap64 ((rd x (i : Int)) * E)) - (wrap64 (isum x * c))) = gU E c i x := by
      rw [rd38At, wrap64_of (x := x.getD i 0 * E) (by omega) (by omega), wrap64_of (x := isum x * c) (by omega) (by omega), wrap64_of (by omega) (by omega)]
      rfl
    rw [crowd_Guess.L1_eq, if_pos (by omega), if_pos (by omega), if_pos (by omega), if_pos (by rw [List.length_take]; omega), e2, e, w1 (by omega)]
    exact ih (i + 1) (by omega)
theorem guess_gcd (L : List Int) (hL : L.length ≤ 8) (hb : ∀ v ∈ L, -1000000 ≤ v ∧ v ≤ 1000000) (D : Int) : ∀ (n i : Nat) (g : Nat), i + n = L.length → 1 ≤ g → (∀ v ∈ L.take i, (g : Int) ∣ v) →
    ∃ g' : Nat, 1 ≤ g' ∧ g' ∣ g ∧ (∀ v ∈ L, (g' : Int) ∣ v) ∧ crowd_Guess.L2 L D (g : Int) L (L.length : Int) (i : Int) = crowd_Guess.L3 L D (g' : Int) (L.length : Int) 0 := by
  intro n
  induction n with
  | zero =>
    intro i g hi hg h
    rw [List.take_of_length_le (by omega)] at h
    exact ⟨g, hg, Nat.dvd_refl g, h, by rw [crowd_Guess.L2_eq, if_neg (by omega)]⟩
  | succ n ih =>
    intro i g hi hg h
    have hlt : i < L.length := by omega
    have hv := hb _ (List.getElem_mem hlt)
    have hg2 : 1 ≤ Nat.gcd L[i].natAbs g := Nat.gcd_pos_of_pos_right _ (by omega)
    have hd1 : Nat.gcd L[i].natAbs g ∣ g := Nat.gcd_dvd_right _ _
    obtain ⟨g', h1, h2, h3, h4⟩ := ih (i + 1) (Nat.gcd L[i].natAbs g) (by omega) hg2 (fun v hv' => by
      rw [List.take_succ_eq_append_getElem hlt, List.mem_append, List.mem_singleton] at hv'
      rcases hv' with e | e
      · exact Int.dvd_trans (Int.natCast_dvd_natCast.2 hd1) (h v e)
      · rw [e]
        exact Int.dvd_natAbs.1 (Int.natCast_dvd_natCast.2 (Nat.gcd_dvd_left _ _)))
    refine ⟨g', h1, Nat.dvd_trans h2 hd1, h3, ?_⟩
    rw [crowd_Guess.L2_eq, if_pos (by omega), if_pos (by omega), if_pos (by omega), rdAt hlt, cgcdF g _ (by omega), Option.bind_some, w1 (by omega)]
    exact h4
theorem guess_div (L : List Int) (hL : L.length ≤ 8) (hb : ∀ v ∈ L, -1000000 ≤ v ∧ v ≤ 1000000) (D g : Nat) (hg : 1 ≤ g) (hD : g ∣ D) (hD2 : D ≤ 1000000) (hdv : ∀ v ∈ L, (g : Int) ∣ v) : ∀ (n i : Nat) (X : List Int), i + n = L.length → X.length = L.length → (∀ k, k < L.length → X.getD k 0 * (if k < i then (g : Int) else 1) = L.getD k 0) →
    ∃ Y : List Int, Y.length = L.length ∧ (∀ k, k < L.length → Y.getD k 0 * (g : Int) = L.getD k 0) ∧ crowd_Guess.L3 X (D : Int) (g : Int) (L.length : Int) (i : Int) = some (Y, ((D / g : Nat) : Int), 0) := by
  intro n
  induction n with
  | zero =>
    intro i X hi hX h
    refine ⟨X, hX, fun k hk => by have := h k hk; rwa [if_pos (by omega)] at this, ?_⟩
    have hle := Nat.div_le_self D g
    rw [crowd_Guess.L3_eq, if_neg (by omega), if_neg (by omega), ← Int.ofNat_tdiv]
    generalize D / g = z at *
    rw [wrap64_of (by omega) (by omega)]
  | succ n ih =>
    intro i X hi hX h
    have hlt : i < L.length := by omega
    have hxi : X.getD i 0 = L[i] := by
      have := h i hlt
      rw [if_neg (by omega), Int.mul_one, List.getD_eq_getElem?_getD (l := L), List.getElem?_eq_getElem hlt] at this
      exact this
    have hv := hb _ (List.getElem_mem hlt)
    obtain ⟨q, hq⟩ := hdv _ (List.getElem_mem hlt)
    have hqb : -1000000 ≤ q ∧ q ≤ 1000000 := by
      have h1 : q.natAbs ≤ L[i].natAbs := by
        rw [hq, Int.natAbs_mul, Int.natAbs_natCast]
        exact Nat.le_mul_of_pos_left _ (by omega)
      omega
    have hdiv : wrap64 (Int.tdiv L[i] (g : Int)) = q := by
      rw [hq, Int.mul_tdiv_cancel_left _ (by omega), wrap64_of (by omega) (by omega)]
    obtain ⟨Y, y1, y2, y3⟩ := ih (i + 1) (X.set i q) (by omega) (by rw [List.length_set, hX]) (fun k hk => by
      rw [List.getD_eq_getElem?_getD, List.getElem?_set]
      by_cases e : i = k
      · rw [if_pos e, if_pos (by omega), if_pos (by omega), ← e, List.getD_eq_getElem?_getD, List.getElem?_eq_getElem hlt]
        show q * (g : Int) = L[i]
        rw [hq, Int.mul_comm]
      · rw [if_neg e, ← List.getD_eq_getElem?_getD]
        have h5 := h k hk
        by_cases c : k < i
        · rw [if_pos c] at h5
          rw [if_pos (by omega)]; exact h5
        · rw [if_neg c] at h5
          rw [if_neg (by omega)]; exact h5)
    refine ⟨Y, y1, y2, ?_⟩
    rw [crowd_Guess.L3_eq, if_pos (by omega), if_pos (by omega), if_pos (by omega), if_neg (by omega), rd38At, hxi, hdiv, Int.toNat_natCast, w1 (by omega)]
    exact y3
theorem guessF {a c m : Nat} (c1 : 1 ≤ c) (ca : c < a) (a3 : a ≤ 1000) (m1 : 1 ≤ m) (m2 : m ≤ 8) (hs : a + (m - 1) * c ≤ 1073741824) (hR : ∃ r, noise_Respond.F (a : Int) (c : Int) (m : Int) 0 = some (r, 0)) {x : List Int} (hx : x.length = m) (he : ∀ v ∈ x, 0 ≤ v ∧ v ≤ 100) :
    ∃ (Y : List Int) (g : Nat), Y.length = m ∧ 1 ≤ g ∧ g ∣ (a - c) ∧ (∀ k, k < m → Y.getD k 0 * (g : Int) = gU ((a + (m - 1) * c : Nat) : Int) (c : Int) k x) ∧ crowd_Guess.F (a : Int) (c : Int) x = some (Y, (((a - c) / g : Nat) : Int), 0) := by
  have hmc : (m - 1) * c ≤ 7 * 1000 := Nat.mul_le_mul (by omega) (by omega)
  have e1 : wrap64 ((a : Int) + (wrap64 ((wrap64 ((x.length : Int) - 1)) * (c : Int)))) = ((a + (m - 1) * c : Nat) : Int) := by
    have q1 : (x.length : Int) - 1 = ((m - 1 : Nat) : Int) := by omega
    rw [wrap64_of (x := (x.length : Int) - 1) (by omega) (by omega), q1, ← Int.natCast_mul, wrap64_of (x := (((m - 1) * c : Nat) : Int)) (by omega) (by omega), wrap64_of (by omega) (by omega)]
    omega
  have e2 : wrap64 ((a : Int) - (c : Int)) = ((a - c : Nat) : Int) := by rw [wrap64_of (by omega) (by omega)]; omega
  have h1 := guess_sum x (by omega) he (a : Int) (c : Int) x.length 0 (Nat.zero_add _)
  rw [List.take_zero, e1, e2] at h1
  have h2 := guess_ups x (by omega) he ((a - c : Nat) : Int) ((a + (m - 1) * c : Nat) : Int) (a : Int) (c : Int) ⟨by omega, by omega⟩ ⟨by omega, by omega⟩ x.length 0 (Nat.zero_add _)
  rw [List.take_zero] at h2
  have hlen := gL_len ((a + (m - 1) * c : Nat) : Int) (c : Int) x
  have hbd : ∀ v ∈ gL ((a + (m - 1) * c : Nat) : Int) (c : Int) x, -1000000 ≤ v ∧ v ≤ 1000000 := fun v hv => by
    unfold gL at hv
    obtain ⟨k, hk, rfl⟩ := List.mem_map.1 hv
    obtain ⟨b1, b2⟩ := gU_bd (E := ((a + (m - 1) * c : Nat) : Int)) (c := (c : Int)) (by omega) he (List.mem_range.1 hk) ⟨by omega, by omega⟩ ⟨by omega, by omega⟩
    unfold gU
    omega
  have hat : ∀ k, k < m → (gL ((a + (m - 1) * c : Nat) : Int) (c : Int) x).getD k 0 = gU ((a + (m - 1) * c : Nat) : Int) (c : Int) k x := fun k hk => by
    rw [List.getD_eq_getElem?_getD, List.getElem?_eq_getElem (by omega), ← gL_at (by omega)]
    rfl
  generalize gL ((a + (m - 1) * c : Nat) : Int) (c : Int) x = L at *
  obtain ⟨g, g1, g2, g3, g4⟩ := guess_gcd L (by omega) hbd ((a - c : Nat) : Int) L.length 0 (a - c) (Nat.zero_add _) (by omega) (fun v hv => by rw [List.take_zero] at hv; cases hv)
  obtain ⟨Y, y1, y2, y3⟩ := guess_div L (by omega) hbd (a - c) g g1 g2 (by omega) g3 L.length 0 L (Nat.zero_add _) rfl (fun k hk => by rw [if_neg (by omega), Int.mul_one])
  refine ⟨Y, g, by omega, g1, g2, fun k hk => (y2 k (by omega)).trans (hat k hk), ?_⟩
  rw [crowd_Guess.F_eq, hx, people_nil c1 (by omega) m1 m2 hs hR, Option.bind_some, if_pos rfl, if_neg (by omega)]
  rw [hlen] at g4 y3
  rw [hx] at h1 h2 g4 y3
  exact (h1.trans h2).trans (g4.trans y3)
structure SumS (E c : Int) (m : Nat) (l : List S38) (s : List Int) : Prop where
  len : s.length = m
  at_ : ∀ k, k < m → s.getD k 0 = gF E c k l
theorem gF_snoc (E c : Int) (k : Nat) (l : List S38) (p : S38) : gF E c k (l ++ [p]) = gF E c k l + p.f1 * gU E c k p.f0 := by
  unfold gF
  rw [List.map_append, isum_app]
  simp [isum]
theorem gF_bd {E c : Int} {k : Nat} : ∀ {l : List S38}, (∀ p ∈ l, 0 ≤ p.f1 ∧ -1000000 ≤ gU E c k p.f0 ∧ gU E c k p.f0 ≤ 1000000) → -(1000000 * totOf l) ≤ gF E c k l ∧ gF E c k l ≤ 1000000 * totOf l
  | [], _ => by simp [gF, isum, totOf]
  | p :: l, h => by
    have ih := gF_bd (l := l) (fun q hq => h q (by simp [hq]))
    obtain ⟨h0, h1, h2⟩ := h p (by simp)
    unfold gF at ih ⊢
    rw [List.map_cons, isum, totOf_cons]
    have k1 : p.f1 * gU E c k p.f0 ≤ p.f1 * 1000000 := Int.mul_le_mul_of_nonneg_left h2 h0
    have k2 : p.f1 * (-1000000) ≤ p.f1 * gU E c k p.f0 := Int.mul_le_mul_of_nonneg_left h1 h0
    omega
theorem fair_in {a c m g : Nat} (ca : c < a) (a3 : a ≤ 1000) (m2 : m ≤ 8) (hg : 1 ≤ g) (hgd : g ∣ (a - c)) (kinds : Int) (T : List Int) (d : List S38) (i : Int) (u e : Int) (p : S38) (Y : List Int) (hY : Y.length = m) (U base : Nat → Int) (hw : 0 ≤ p.f1 ∧ p.f1 ≤ 1073741824) (hU : ∀ k, k < m → Y.getD k 0 * (g : Int) = U k ∧ -1000000 ≤ U k ∧ U k ≤ 1000000) (hb : ∀ k, k < m → -1152921504606846976 ≤ base k ∧ base k ≤ 1152921504606846976) : ∀ (n k : Nat) (s : List Int), k + n = m → s.length = m → (∀ j, j < m → s.getD j 0 = if j < k then base j + p.f1 * U j else base j) →
    ∃ s' : List Int, s'.length = m ∧ (∀ j, j < m → s'.getD j 0 = base j + p.f1 * U j) ∧ hushlaw13_CrowdFair.L1 kinds T d ((a - c : Nat) : Int) s Y (((a - c) / g : Nat) : Int) d (d.length : Int) i (m : Int) (k : Int) u e p.f0 p.f1 = hushlaw13_CrowdFair.L0 kinds T d ((a - c : Nat) : Int) s' d (d.length : Int) (wrap64 (i + 1)) u e := by
  obtain ⟨q, hq⟩ := hgd
  have hq1 : 1 ≤ q := by
    rcases Nat.eq_zero_or_pos q with z | z
    · rw [z, Nat.mul_zero] at hq; omega
    · exact z
  have hdg : (a - c) / g = q := by rw [hq, Nat.mul_div_cancel_left _ (by omega)]
  have hdq : Int.tdiv ((a - c : Nat) : Int) (((a - c) / g : Nat) : Int) = (g : Int) := by
    rw [← Int.ofNat_tdiv, hdg, hq, Nat.mul_div_cancel _ (by omega)]
  have hgb : g ≤ 1000 := by
    have : g * 1 ≤ g * q := Nat.mul_le_mul_left _ hq1
    omega
  have hqz : ¬ (((a - c) / g : Nat) : Int) = 0 := by rw [hdg]; omega
  have hwg : wrap64 (g : Int) = (g : Int) := wrap64_of (by omega) (by omega)
  clear hq
  intro n
  induction n with
  | zero =>
    intro k s hk hs h
    refine ⟨s, hs, fun j hj => by have := h j hj; rwa [if_pos (by omega)] at this, ?_⟩
    rw [hushlaw13_CrowdFair.L1_eq, if_neg (by omega)]
  | succ n ih =>
    intro k s hk hs h
    have hkm : k < m := by omega
    obtain ⟨u1, u2, u3⟩ := hU k hkm
    obtain ⟨b1, b2⟩ := hb k hkm
    have hsk : s.getD k 0 = base k := by have := h k hkm; rwa [if_neg (by omega)] at this
    have w1' : p.f1 * U k ≤ 1073741824 * 1000000 := by
      have h1 : p.f1 * U k ≤ p.f1 * 1000000 := Int.mul_le_mul_of_nonneg_left u3 hw.1
      omega
    have w2' : -(1073741824 * 1000000) ≤ p.f1 * U k := by
      have h1 : p.f1 * (-1000000) ≤ p.f1 * U k := Int.mul_le_mul_of_nonneg_left u2 hw.1
      omega
    have e1 : p.f1 * Y.getD k 0 * (g : Int) = p.f1 * U k := by rw [Int.mul_assoc, u1]
    have w3 : -(1073741824 * 1000000) ≤ p.f1 * Y.getD k 0 ∧ p.f1 * Y.getD k 0 ≤ 1073741824 * 1000000 := by
      have h1 : (p.f1 * Y.getD k 0).natAbs ≤ (p.f1 * U k).natAbs := by
        rw [← e1, Int.natAbs_mul (p.f1 * Y.getD k 0) (g : Int), Int.natAbs_natCast]
        exact Nat.le_mul_of_pos_right _ (by omega)
      omega
    have ev : wrap64 ((rd s (k : Int)) + (wrap64 ((wrap64 (p.f1 * (rd Y (k : Int)))) * (wrap64 (Int.tdiv ((a - c : Nat) : Int) (((a - c) / g : Nat) : Int)))))) = base k + p.f1 * U k := by
      rw [rd38At, rd38At, hsk, hdq, hwg, wrap64_of (x := p.f1 * Y.getD k 0) (by omega) (by omega), e1, wrap64_of (x := p.f1 * U k) (by omega) (by omega), wrap64_of (by omega) (by omega)]
    obtain ⟨s', s1, s2, s3⟩ := ih (k + 1) (s.set k (base k + p.f1 * U k)) (by omega) (by rw [List.length_set]; exact hs) (fun j hj => by
      rw [List.getD_eq_getElem?_getD, List.getElem?_set]
      by_cases e : k = j
      · rw [if_pos e, if_pos (by omega), if_pos (by omega), ← e]; rfl
      · rw [if_neg e, ← List.getD_eq_getElem?_getD, h j hj]
        by_cases c2 : j < k
        · rw [if_pos c2, if_pos (by omega)]
        · rw [if_neg c2, if_neg (by omega)])
    refine ⟨s', s1, s2, ?_⟩
    rw [hushlaw13_CrowdFair.L1_eq, if_pos (by omega), if_pos (by omega), if_pos (by omega), if_pos (by omega), if_neg hqz, ev, Int.toNat_natCast, w1 (by omega)]
    exact s3
theorem fair_all {a c m : Nat} (c1 : 1 ≤ c) (ca : c < a) (a3 : a ≤ 1000) (m1 : 1 ≤ m) (m2 : m ≤ 8) (hs : a + (m - 1) * c ≤ 1073741824) (hR : ∃ r, noise_Respond.F (a : Int) (c : Int) (m : Int) 0 = some (r, 0)) (T : List Int) (d : List S38) (hl : d.length ≤ 1048576) (hx : ∀ p ∈ d, p.f0.length = m ∧ ∀ v ∈ p.f0, 0 ≤ v ∧ v ≤ 100) (hw : ∀ p ∈ d, 0 ≤ p.f1) (ht : totOf d ≤ 1073741824) : ∀ (n i : Nat) (s : List Int), i + n = d.length → SumS ((a + (m - 1) * c : Nat) : Int) (c : Int) m (d.take i) s →
    ∃ s', SumS ((a + (m - 1) * c : Nat) : Int) (c : Int) m d s' ∧ hushlaw13_CrowdFair.L0 (m : Int) T d ((a - c : Nat) : Int) s d (d.length : Int) (i : Int) (a : Int) (c : Int) = hushlaw13_CrowdFair.L2 T d ((a - c : Nat) : Int) s' (m : Int) 0 := by
  have hmc : (m - 1) * c ≤ 7 * 1000 := Nat.mul_le_mul (by omega) (by omega)
  intro n
  induction n with
  | zero =>
    intro i s hi h
    rw [List.take_of_length_le (by omega)] at h
    refine ⟨s, h, ?_⟩
    rw [hushlaw13_CrowdFair.L0_eq, if_neg (by omega), h.len]
  | succ n ih =>
    intro i s hi h
    have hlt : i < d.length := by omega
    have hp := List.getElem_mem hlt
    obtain ⟨hxl, hxe⟩ := hx _ hp
    have hw0 := hw _ hp
    have hw1 := one_le hw hp
    obtain ⟨Y, g, y1, g1, g2, y2, y3⟩ := guessF c1 ca a3 m1 m2 hs hR hxl hxe
    have hU : ∀ k, k < m → Y.getD k 0 * (g : Int) = gU ((a + (m - 1) * c : Nat) : Int) (c : Int) k d[i].f0 ∧ -1000000 ≤ gU ((a + (m - 1) * c : Nat) : Int) (c : Int) k d[i].f0 ∧ gU ((a + (m - 1) * c : Nat) : Int) (c : Int) k d[i].f0 ≤ 1000000 := fun k hk => by
      obtain ⟨b1, b2⟩ := gU_bd (E := ((a + (m - 1) * c : Nat) : Int)) (c := (c : Int)) (by omega) hxe (k := k) (by omega) ⟨by omega, by omega⟩ ⟨by omega, by omega⟩
      refine ⟨y2 k hk, ?_, ?_⟩ <;> unfold gU <;> omega
    have htk : totOf (d.take i) ≤ totOf d := by
      have e := List.take_append_drop i d
      have h1 : 0 ≤ totOf (d.drop i) := tot_ge (fun p hp => hw p (List.mem_of_mem_drop hp))
      have h2 := totOf_app (d.take i) (d.drop i)
      rw [e] at h2
      omega
    have hb : ∀ k, k < m → -1152921504606846976 ≤ gF ((a + (m - 1) * c : Nat) : Int) (c : Int) k (d.take i) ∧ gF ((a + (m - 1) * c : Nat) : Int) (c : Int) k (d.take i) ≤ 1152921504606846976 := fun k hk => by
      have := gF_bd (E := ((a + (m - 1) * c : Nat) : Int)) (c := (c : Int)) (k := k) (l := d.take i) (fun p hp => by
        have hp' := List.mem_of_mem_take hp
        obtain ⟨q1, q2⟩ := hx p hp'
        obtain ⟨b1, b2⟩ := gU_bd (E := ((a + (m - 1) * c : Nat) : Int)) (c := (c : Int)) (by omega) q2 (k := k) (by omega) ⟨by omega, by omega⟩ ⟨by omega, by omega⟩
        refine ⟨hw p hp', ?_, ?_⟩ <;> unfold gU <;> omega)
      omega
    obtain ⟨s', s1, s2, s3⟩ := fair_in (p := d[i]) ca a3 m2 g1 g2 (m : Int) T d (i : Int) (a : Int) (c : Int) Y y1 (fun k => gU ((a + (m - 1) * c : Nat) : Int) (c : Int) k d[i].f0) (fun k => gF ((a + (m - 1) * c : Nat) : Int) (c : Int) k (d.take i)) ⟨hw0, by omega⟩ hU hb m 0 s (Nat.zero_add _) h.len (fun j hj => by rw [if_neg (by omega)]; exact h.at_ j hj)
    obtain ⟨s'', t1, t2⟩ := ih (i + 1) s' (by omega) ⟨s1, fun k hk => by rw [s2 k hk, List.take_succ_eq_append_getElem hlt, gF_snoc]⟩
    refine ⟨s'', t1, ?_⟩
    obtain ⟨q, hq⟩ := g2
    have hq1 : 1 ≤ q := by
      rcases Nat.eq_zero_or_pos q with z | z
      · rw [z, Nat.mul_zero] at hq; omega
      · exact z
    have hdg : (a - c) / g = q := by rw [hq, Nat.mul_div_cancel_left _ (by omega)]
    have hmod : (Int.tmod ((a - c : Nat) : Int) (((a - c) / g : Nat) : Int) != 0) = false := by
      rw [← Int.ofNat_tmod, hdg, hq, Nat.mul_mod_left]; rfl
    rw [hushlaw13_CrowdFair.L0_eq, if_pos (by omega), if_pos (by omega), if_pos (by omega), rd32At hlt, y3, Option.bind_some, if_pos rfl]
    dsimp only
    rw [if_pos (by omega), if_neg (by rw [hdg]; omega), if_neg (by rw [hdg]; omega), hmod, hushlaw13_CrowdFair.J3_eq, if_neg (by decide), h.len]
    rw [w1 (by omega)] at s3
    exact s3.trans t2
theorem cnt_snoc (k : Nat) : ∀ (T : List Nat) (t : Nat), cnt k (T ++ [t]) = cnt k T + (if t = k then 1 else 0)
  | [], t => by simp [cnt]
  | q :: T, t => by rw [List.cons_append, cnt, cnt, cnt_snoc k T t]; omega
theorem cnt_le (k : Nat) : ∀ T : List Nat, cnt k T ≤ T.length
  | [] => by simp [cnt]
  | q :: T => by
    have := cnt_le k T
    rw [cnt, List.length_cons]
    split <;> omega
theorem fair_cnt (T : List Int) (hT : T.length ≤ 12) (h0 : ∀ t ∈ T, 0 ≤ t) (d : List S38) (D : Int) (s : List Int) (k : Nat) (x127 x128 : Int) : ∀ (n i : Nat), i + n = T.length →
    hushlaw13_CrowdFair.L3 T d D s (k : Int) ((cnt k ((T.take i).map Int.toNat) : Nat) : Int) x127 x128 T (T.length : Int) (i : Int) = hushlaw13_CrowdFair.L3 T d D s (k : Int) ((cnt k (T.map Int.toNat) : Nat) : Int) x127 x128 T (T.length : Int) (T.length : Int) := by
  intro n
  induction n with
  | zero =>
    intro i hi
    obtain rfl : i = T.length := by omega
    rw [List.take_length]
  | succ n ih =>
    intro i hi
    have hlt : i < T.length := by omega
    have ht := h0 _ (List.getElem_mem hlt)
    have hc := cnt_le k ((T.take i).map Int.toNat)
    rw [List.length_map, List.length_take] at hc
    have e : cnt k ((T.take (i + 1)).map Int.toNat) = cnt k ((T.take i).map Int.toNat) + (if T[i].toNat = k then 1 else 0) := by
      rw [List.take_succ_eq_append_getElem hlt, List.map_append, List.map_cons, List.map_nil, cnt_snoc]
    have ih' := ih (i + 1) (by omega)
    rw [hushlaw13_CrowdFair.L3_eq, if_pos (by omega), if_pos (by omega), if_pos (by omega), rdAt hlt]
    by_cases c : T[i].toNat = k
    · rw [if_pos c] at e
      rw [if_pos (by omega), w1 (by omega), w1 (by omega), ← e]
      exact ih'
    · have e2 : cnt k ((T.take (i + 1)).map Int.toNat) = cnt k ((T.take i).map Int.toNat) := by rw [e, if_neg c]; omega
      rw [if_neg (by omega), w1 (by omega), ← e2]
      exact ih'
theorem fair_end {a c m : Nat} (c1 : 1 ≤ c) (ca : c < a) (a3 : a ≤ 1000) (T : List Int) (hT : T.length ≤ 12) (h0 : ∀ t ∈ T, 0 ≤ t) (d : List S38) (hr : RD d) (s : List Int) (hs : s.length = m) (m2 : m ≤ 8) (h : ∀ k, k < m → s.getD k 0 = ((cnt k (T.map Int.toNat) * (a - c) : Nat) : Int) * totOf d) : ∀ (n k : Nat), k + n = m →
    hushlaw13_CrowdFair.L2 T d ((a - c : Nat) : Int) s (m : Int) (k : Int) = some true := by
  intro n
  induction n with
  | zero =>
    intro k hk
    rw [hushlaw13_CrowdFair.L2_eq, if_neg (by omega)]
  | succ n ih =>
    intro k hk
    have hc := cnt_le k (T.map Int.toNat)
    rw [List.length_map] at hc
    have hm : cnt k (T.map Int.toNat) * (a - c) ≤ 12 * 1000 := Nat.mul_le_mul (by omega) (by omega)
    have hf := hr.right.few
    have hp := hr.right.pos
    have hb : ((cnt k (T.map Int.toNat) * (a - c) : Nat) : Int) * totOf d ≤ 12000 * 1073741824 := Int.mul_le_mul (by omega) hf (by omega) (by omega)
    have hb0 : 0 ≤ ((cnt k (T.map Int.toNat) * (a - c) : Nat) : Int) * totOf d := Int.mul_nonneg (by omega) (by omega)
    have e1 : wrap64 ((wrap64 (((cnt k (T.map Int.toNat) : Nat) : Int) * ((a - c : Nat) : Int))) * totOf d) = ((cnt k (T.map Int.toNat) * (a - c) : Nat) : Int) * totOf d := by
      rw [← Int.natCast_mul, wrap64_of (x := ((cnt k (T.map Int.toNat) * (a - c) : Nat) : Int)) (by omega) (by omega), wrap64_of (by omega) (by omega)]
    have hcnt := fair_cnt T hT h0 d ((a - c : Nat) : Int) s k (m : Int) (k : Int) T.length 0 (Nat.zero_add _)
    rw [List.take_zero, List.map_nil, cnt] at hcnt
    have z : (((0 : Nat) : Nat) : Int) = 0 := rfl
    rw [z] at hcnt
    rw [hushlaw13_CrowdFair.L2_eq, if_pos (by omega)]
    refine hcnt.trans ?_
    rw [hushlaw13_CrowdFair.L3_eq, if_neg (by omega), if_pos (by omega), if_pos (by omega), hr.tF, Option.bind_some, rd38At, h k (by omega), e1, if_pos rfl, w1 (by omega)]
    exact ih (k + 1) (by omega)
theorem fair_rest {u e kinds : Int} {T : List Int} (hw : 2 ≤ kinds → kinds.toNat ^ T.length ≤ 1048576) : (crowd_Shuffled.F u e kinds T).bind (fun bt265 => (if bt265.2 = 0 then (hushlaw13_CrowdFair.J0 kinds T bt265.1 (u == e) u e) else (hushlaw13_CrowdFair.J0 kinds T bt265.1 true u e))) = some true := by
  have jt : ∀ x, hushlaw13_CrowdFair.J0 kinds T x true u e = some true := fun x => by rw [hushlaw13_CrowdFair.J0_eq, if_pos rfl]
  cases shuf_form u e kinds T hw with
  | bad x hx hF => rw [hF, Option.bind_some, if_neg hx, jt]
  | good a c m hu hd hm c1 ca a2 hco m1 m2 hs hl hT hp hR hI hb ht hF =>
    rw [hF, Option.bind_some]
    by_cases c3 : (makeP (shuf a c m (T.map Int.toNat) (start m))).2 = 0
    · rw [if_pos c3]
      by_cases c4 : u = e
      · rw [beq_iff_eq.2 c4, jt]
      · have w1' := (make_right' c3).1
        have X : RD (makeP (shuf a c m (T.map Int.toNat) (start m))).1 := ⟨bd_right w1', w1'⟩
        have hfs := fun k (hk : k < m) => fair_sum (a := a) (c := c) (by omega) hk (T.map Int.toNat) (fun t ht' => by
          obtain ⟨q, hq, rfl⟩ := List.mem_map.1 ht'
          have := hT q hq
          omega) (by rw [List.length_map]; exact ht) c3
        have hxo : ∀ p ∈ (makeP (shuf a c m (T.map Int.toNat) (start m))).1, p.f0.length = m ∧ ∀ v ∈ p.f0, 0 ≤ v ∧ v ≤ 100 := fun p hp' => by
          obtain ⟨_, g, hg, hwo, _⟩ := make_right' c3
          have h1 := wOf_ge X.nn hp'
          have h2 := X.pw p hp'
          have h3 : 0 < wOf (shuf a c m (T.map Int.toNat) (start m)) p.f0 := by
            rw [← hwo]
            exact Int.mul_pos (by omega) (by omega)
          obtain ⟨q, hq, e1⟩ := wOf_mem h3
          rw [← e1]
          exact ⟨hI.len q hq, fun v hv => by have := hI.ent q hq v hv; omega⟩
        have hne : ¬ ((makeP (shuf a c m (T.map Int.toNat) (start m))).1.length : Int) = 0 := fun z => by
          have z2 : (makeP (shuf a c m (T.map Int.toNat) (start m))).1 = [] := List.eq_nil_of_length_eq_zero (by omega)
          have := X.right.pos
          rw [z2] at this
          exact absurd this (by decide)
        generalize (makeP (shuf a c m (T.map Int.toNat) (start m))).1 = d at *
        have hlen := X.bd.len
        rw [beq_eq_false_iff_ne.2 c4, hushlaw13_CrowdFair.J0_eq, if_neg (by decide), if_neg (by omega), if_neg hne]
        by_cases c5 : u > 1000
        · rw [decide_eq_true c5, hushlaw13_CrowdFair.J1_eq, if_pos rfl, if_pos (by omega), decide_eq_true (show (d.length : Int) > 0 by omega)]
        · have e2 : wrap64 (u - e) = ((a - c : Nat) : Int) := by rw [hu, hd, wrap64_of (by omega) (by omega)]; omega
          rw [decide_eq_false c5, hushlaw13_CrowdFair.J1_eq, if_neg (by decide), if_pos (by omega), if_pos (by omega), e2, hm, hu, hd, Int.toNat_natCast]
          rw [hu, hd, hm] at hR
          obtain ⟨s', t1, t2⟩ := fair_all (a := a) (c := c) (m := m) c1 (by omega) (by omega) m1 m2 hs hR T d hlen hxo X.nn X.right.few d.length 0 (List.replicate m 0) (Nat.zero_add _) ⟨List.length_replicate, fun k hk => by
            rw [List.take_zero, List.getD_eq_getElem?_getD, List.getElem?_replicate, if_pos hk]; rfl⟩
          refine t2.trans ?_
          exact fair_end (m := m) c1 (by omega) (by omega) T hl (fun t ht' => (hT t ht').1) d X s' t1.len m2 (fun k hk => by rw [t1.at_ k hk, hfs k hk]) m 0 (Nat.zero_add _)
    · rw [if_neg c3, jt]
end Go.Proofs.Ytfoolbcfpedhmaa.DistPure
namespace Go.Proofs.Ytfoolbcfpedhmaa.Pure
open Go.RowKit Go.Proofs.Ytfoolbcfpedhmaa.PB Go.Proofs.YtfoolbcfpedhmaaW.PrintWords Go.Proofs.YtfoolbcfpedhmaaW.PrintLast Go.Proofs.YtfoolbcfpedhmaaW.PrintMore Go.Proofs.YtfoolbcfpedhmaaW.EvKit Go.Proofs.Ytfoolbcfpedhmaa.DistPure
theorem CrowdFair : hushlaw13_CrowdFair.Pure := by
  intro r kinds T h0 h1 h2
  refine (hushlaw13_CrowdFair.F_is r.f0 r.f1 kinds T).rounds ?_
  have hT : T.length ≤ 17592186043904 := by have := h2.2.1; omega
  have hk : kinds ≤ 9223372036854775807 := (wf64 h1).2
  clear h0 h1 h2
  obtain ⟨b, e, hb⟩ := wideF kinds T hk (by omega)
  rw [hushlaw13_CrowdFair.F_eq, alive13, Option.bind_some, if_pos rfl, e, Option.bind_some]
  cases b with
  | true => rw [if_pos rfl]
  | false =>
    rw [if_neg (by decide)]
    exact fair_rest (fun h => hb rfl h)
end Go.Proofs.Ytfoolbcfpedhmaa.Pure
end

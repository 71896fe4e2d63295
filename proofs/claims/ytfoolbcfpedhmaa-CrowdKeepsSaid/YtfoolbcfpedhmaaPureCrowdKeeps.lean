/- The pure texts of this claim, its functions behind all rounds among them, and small steps. Conditions stand in each theorem. -/
import Derived.Test.YtfoolbcfpedhmaaPAx9
import Derived.Test.YtfoolbcfpedhmaaLim
import Derived.Test.YtfoolbcfpedhmaaPAx0
import Derived.Test.YtfoolbcfpedhmaaPAx3
import Derived.Test.YtfoolbcfpedhmaaPAx2
import Derived.Test.YtfoolbcfpedhmaaPAx1
import Derived.Test.YtfoolbcfpedhmaaPAx4
import Derived.Test.YtfoolbcfpedhmaaPAx5
import Derived.Test.YtfoolbcfpedhmaaPAx7
import Derived.Test.YtfoolbcfpedhmaaPAx6
import Derived.Test.YtfoolbcfpedhmaaPAx11
import Derived.Test.YtfoolbcfpedhmaaPAx10
import Derived.Test.YtfoolbcfpedhmaaPAx8
import Derived.Test.YtfoolbcfpedhmaaPAx16
import Derived.Test.YtfoolbcfpedhmaaPAx12
import Derived.Test.YtfoolbcfpedhmaaPAx13
import Derived.Test.YtfoolbcfpedhmaaEvKit
import Derived.Test.YtfoolbcfpedhmaaPAx14
section
namespace Go.Proofs.Ytfoolbcfpedhmaa.PA
open Go.RowKit Go.Proofs.YtfoolbcfpedhmaaW.PrintWords Go.Proofs.YtfoolbcfpedhmaaW.PrintLast Go.Proofs.YtfoolbcfpedhmaaW.PrintMore
open Go.Proofs.YtfoolbcfpedhmaaW.EvKit
set_option linter.unusedVariables false
end Go.Proofs.Ytfoolbcfpedhmaa.PA
end
section
namespace Go.Proofs.Ytfoolbcfpedhmaa.PA
open Go.RowKit Go.Proofs.YtfoolbcfpedhmaaW.PrintWords Go.Proofs.YtfoolbcfpedhmaaW.PrintLast Go.Proofs.YtfoolbcfpedhmaaW.PrintMore
open Go.Proofs.YtfoolbcfpedhmaaW.EvKit
set_option linter.unusedVariables false
noncomputable def hushlaw13_wide.L0 (x0 : Int) (x5 : Int) (x7 : Int) (x8 : Int) : Option (Bool) := lim (fun k => hushlaw13_wide.l0 k x0 x5 x7 x8)
theorem hushlaw13_wide.L0_is (x0 : Int) (x5 : Int) (x7 : Int) (x8 : Int) : LimIs (fun k => hushlaw13_wide.l0 k x0 x5 x7 x8) (hushlaw13_wide.L0 x0 x5 x7 x8) := ⟨fun k => (hushlaw13_wide.mono_l k) x0 x5 x7 x8, rfl⟩
noncomputable def hushlaw13_wide.F (a0 : Int) (l1 : List Int) : Option (Bool) := lim (fun k => hushlaw13_wide.f k a0 l1)
theorem hushlaw13_wide.F_is (a0 : Int) (l1 : List Int) : LimIs (fun k => hushlaw13_wide.f k a0 l1) (hushlaw13_wide.F a0 l1) := ⟨fun k => hushlaw13_wide.mono a0 l1 k, rfl⟩
set_option maxRecDepth 100000 in
theorem hushlaw13_wide.L0_eq (x0 : Int) (x5 : Int) (x7 : Int) (x8 : Int) : hushlaw13_wide.L0 x0 x5 x7 x8 = if x8 < x7 then (if x0 < 2 then (some false) else (if x0 = 0 then (none) else (if x5 > (wrap64 (Int.tdiv (1048576 : Int) x0)) then (some true) else (hushlaw13_wide.L0 x0 (wrap64 (x5 * x0)) x7 (wrap64 (x8 + 1)))))) else (some false) := by
  refine LimIs.step' (hushlaw13_wide.L0_is x0 x5 x7 x8).1 (b := fun k => if x8 < x7 then (if x0 < 2 then (some false) else (if x0 = 0 then (none) else (if x5 > (wrap64 (Int.tdiv (1048576 : Int) x0)) then (some true) else (hushlaw13_wide.l0 k x0 (wrap64 (x5 * x0)) x7 (wrap64 (x8 + 1)))))) else (some false)) (fun k => by first | rfl | rw [hushlaw13_wide.l0]) ?_
  repeat' first
    | (with_reducible exact hushlaw13_wide.L0_is _ _ _ _)
    | (with_reducible exact LimIs.const _)
    | (with_reducible refine LimIs.ite ?_ ?_)
    | (with_reducible refine LimIs.bind ?_ (fun _ => ?_))
    | exact hushlaw13_wide.L0_is _ _ _ _
    | exact LimIs.const _
    | refine LimIs.ite ?_ ?_
    | refine LimIs.bind ?_ (fun _ => ?_)
set_option maxRecDepth 100000 in
theorem hushlaw13_wide.F_eq (a0 : Int) (l1 : List Int) : hushlaw13_wide.F a0 l1 = hushlaw13_wide.L0 a0 1 (l1.length : Int) 0 := by
  refine LimIs.out (?_ : LimIs (fun k => hushlaw13_wide.l0 k a0 1 (l1.length : Int) 0) _)
  repeat' first
    | (with_reducible exact hushlaw13_wide.L0_is _ _ _ _)
    | (with_reducible exact LimIs.const _)
    | (with_reducible refine LimIs.ite ?_ ?_)
    | (with_reducible refine LimIs.bind ?_ (fun _ => ?_))
    | exact hushlaw13_wide.L0_is _ _ _ _
    | exact LimIs.const _
    | refine LimIs.ite ?_ ?_
    | refine LimIs.bind ?_ (fun _ => ?_)
end Go.Proofs.Ytfoolbcfpedhmaa.PA
end
section
namespace Go.Proofs.Ytfoolbcfpedhmaa.PA
open Go.RowKit Go.Proofs.YtfoolbcfpedhmaaW.PrintWords Go.Proofs.YtfoolbcfpedhmaaW.PrintLast Go.Proofs.YtfoolbcfpedhmaaW.PrintMore
open Go.Proofs.YtfoolbcfpedhmaaW.EvKit
set_option linter.unusedVariables false
noncomputable def slices_IndexFunc_int_int.L0 (x0 : List Int) (x7 : Int) (x8 : Int) : Option (Int) := lim (fun k => slices_IndexFunc_int_int.l0 k x0 x7 x8)
theorem slices_IndexFunc_int_int.L0_is (x0 : List Int) (x7 : Int) (x8 : Int) : LimIs (fun k => slices_IndexFunc_int_int.l0 k x0 x7 x8) (slices_IndexFunc_int_int.L0 x0 x7 x8) := ⟨fun k => (slices_IndexFunc_int_int.mono_l k) x0 x7 x8, rfl⟩
noncomputable def dist_total.L0 (x3 : Int) (x6 : List (S38)) (x7 : Int) (x8 : Int) : Option (Int) := lim (fun k => dist_total.l0 k x3 x6 x7 x8)
theorem dist_total.L0_is (x3 : Int) (x6 : List (S38)) (x7 : Int) (x8 : Int) : LimIs (fun k => dist_total.l0 k x3 x6 x7 x8) (dist_total.L0 x3 x6 x7 x8) := ⟨fun k => (dist_total.mono_l k) x3 x6 x7 x8, rfl⟩
noncomputable def dist_gcd.L0 (x0 : Int) (x1 : Int) : Option (Int) := lim (fun k => dist_gcd.l0 k x0 x1)
theorem dist_gcd.L0_is (x0 : Int) (x1 : Int) : LimIs (fun k => dist_gcd.l0 k x0 x1) (dist_gcd.L0 x0 x1) := ⟨fun k => (dist_gcd.mono_l k) x0 x1, rfl⟩
noncomputable def slices_IndexFunc_int_int.F (l0 : List Int) (a1 : Int) : Option (Int) := lim (fun k => slices_IndexFunc_int_int.f k l0 a1)
theorem slices_IndexFunc_int_int.F_is (l0 : List Int) (a1 : Int) : LimIs (fun k => slices_IndexFunc_int_int.f k l0 a1) (slices_IndexFunc_int_int.F l0 a1) := ⟨fun k => slices_IndexFunc_int_int.mono l0 a1 k, rfl⟩
noncomputable def slices_ContainsFunc_int_int.F (l0 : List Int) (a1 : Int) : Option (Bool) := lim (fun k => slices_ContainsFunc_int_int.f k l0 a1)
theorem slices_ContainsFunc_int_int.F_is (l0 : List Int) (a1 : Int) : LimIs (fun k => slices_ContainsFunc_int_int.f k l0 a1) (slices_ContainsFunc_int_int.F l0 a1) := ⟨fun k => slices_ContainsFunc_int_int.mono l0 a1 k, rfl⟩
noncomputable def dist_small.F (l0 : List Int) : Option (Bool) := lim (fun k => dist_small.f k l0)
theorem dist_small.F_is (l0 : List Int) : LimIs (fun k => dist_small.f k l0) (dist_small.F l0) := ⟨fun k => dist_small.mono l0 k, rfl⟩
noncomputable def dist_total.F (l0 : List (S38)) : Option (Int) := lim (fun k => dist_total.f k l0)
theorem dist_total.F_is (l0 : List (S38)) : LimIs (fun k => dist_total.f k l0) (dist_total.F l0) := ⟨fun k => dist_total.mono l0 k, rfl⟩
noncomputable def dist_gcd.F (a0 : Int) (a1 : Int) : Option (Int) := lim (fun k => dist_gcd.f k a0 a1)
theorem dist_gcd.F_is (a0 : Int) (a1 : Int) : LimIs (fun k => dist_gcd.f k a0 a1) (dist_gcd.F a0 a1) := ⟨fun k => dist_gcd.mono a0 a1 k, rfl⟩
set_option maxRecDepth 100000 in
theorem slices_IndexFunc_int_int.L0_eq (x0 : List Int) (x7 : Int) (x8 : Int) : slices_IndexFunc_int_int.L0 x0 x7 x8 = if x8 < x7 then (if 0 ≤ x8 then (if x8 < (x0.length : Int) then ((dist_small_1.f (rd x0 x8)).bind fun t104 => (if t104 = true then (some x8) else (slices_IndexFunc_int_int.L0 x0 x7 (wrap64 (x8 + 1))))) else (none)) else (none)) else (some (-1)) := by
  refine LimIs.step' (slices_IndexFunc_int_int.L0_is x0 x7 x8).1 (b := fun k => if x8 < x7 then (if 0 ≤ x8 then (if x8 < (x0.length : Int) then ((dist_small_1.f (rd x0 x8)).bind fun t104 => (if t104 = true then (some x8) else (slices_IndexFunc_int_int.l0 k x0 x7 (wrap64 (x8 + 1))))) else (none)) else (none)) else (some (-1))) (fun k => by first | rfl | rw [slices_IndexFunc_int_int.l0]) ?_
  repeat' first
    | (with_reducible exact slices_IndexFunc_int_int.L0_is _ _ _)
    | (with_reducible exact LimIs.const _)
    | (with_reducible refine LimIs.ite ?_ ?_)
    | (with_reducible refine LimIs.bind ?_ (fun _ => ?_))
    | exact slices_IndexFunc_int_int.L0_is _ _ _
    | exact LimIs.const _
    | refine LimIs.ite ?_ ?_
    | refine LimIs.bind ?_ (fun _ => ?_)
set_option maxRecDepth 100000 in
theorem dist_total.L0_eq (x3 : Int) (x6 : List (S38)) (x7 : Int) (x8 : Int) : dist_total.L0 x3 x6 x7 x8 = if x8 < x7 then (if 0 ≤ x8 then (if x8 < (x6.length : Int) then (dist_total.L0 (wrap64 (x3 + ((rd_T38 x6 x8).f1))) x6 x7 (wrap64 (x8 + 1))) else (none)) else (none)) else (some x3) := by
  refine LimIs.step' (dist_total.L0_is x3 x6 x7 x8).1 (b := fun k => if x8 < x7 then (if 0 ≤ x8 then (if x8 < (x6.length : Int) then (dist_total.l0 k (wrap64 (x3 + ((rd_T38 x6 x8).f1))) x6 x7 (wrap64 (x8 + 1))) else (none)) else (none)) else (some x3)) (fun k => by first | rfl | rw [dist_total.l0]) ?_
  repeat' first
    | (with_reducible exact dist_total.L0_is _ _ _ _)
    | (with_reducible exact LimIs.const _)
    | (with_reducible refine LimIs.ite ?_ ?_)
    | (with_reducible refine LimIs.bind ?_ (fun _ => ?_))
    | exact dist_total.L0_is _ _ _ _
    | exact LimIs.const _
    | refine LimIs.ite ?_ ?_
    | refine LimIs.bind ?_ (fun _ => ?_)
set_option maxRecDepth 100000 in
theorem dist_gcd.L0_eq (x0 : Int) (x1 : Int) : dist_gcd.L0 x0 x1 = if x1 = 0 then (some x0) else (dist_gcd.L0 x1 (Int.tmod x0 x1)) := by
  refine LimIs.step' (dist_gcd.L0_is x0 x1).1 (b := fun k => if x1 = 0 then (some x0) else (dist_gcd.l0 k x1 (Int.tmod x0 x1))) (fun k => by first | rfl | rw [dist_gcd.l0]) ?_
  repeat' first
    | (with_reducible exact dist_gcd.L0_is _ _)
    | (with_reducible exact LimIs.const _)
    | (with_reducible refine LimIs.ite ?_ ?_)
    | (with_reducible refine LimIs.bind ?_ (fun _ => ?_))
    | exact dist_gcd.L0_is _ _
    | exact LimIs.const _
    | refine LimIs.ite ?_ ?_
    | refine LimIs.bind ?_ (fun _ => ?_)
set_option maxRecDepth 100000 in
theorem slices_IndexFunc_int_int.F_eq (l0 : List Int) (a1 : Int) : slices_IndexFunc_int_int.F l0 a1 = slices_IndexFunc_int_int.L0 l0 (l0.length : Int) 0 := by
  refine LimIs.out (?_ : LimIs (fun k => slices_IndexFunc_int_int.l0 k l0 (l0.length : Int) 0) _)
  repeat' first
    | (with_reducible exact slices_IndexFunc_int_int.L0_is _ _ _)
    | (with_reducible exact LimIs.const _)
    | (with_reducible refine LimIs.ite ?_ ?_)
    | (with_reducible refine LimIs.bind ?_ (fun _ => ?_))
    | exact slices_IndexFunc_int_int.L0_is _ _ _
    | exact LimIs.const _
    | refine LimIs.ite ?_ ?_
    | refine LimIs.bind ?_ (fun _ => ?_)
set_option maxRecDepth 100000 in
theorem slices_ContainsFunc_int_int.F_eq (l0 : List Int) (a1 : Int) : slices_ContainsFunc_int_int.F l0 a1 = (slices_IndexFunc_int_int.F l0 a1).bind fun t105 => (some (decide (t105 ≥ 0))) := by
  refine LimIs.out (?_ : LimIs (fun k => (slices_IndexFunc_int_int.f k l0 a1).bind fun t105 => (some (decide (t105 ≥ 0)))) _)
  repeat' first
    | (with_reducible exact slices_IndexFunc_int_int.F_is _ _)
    | (with_reducible exact LimIs.const _)
    | (with_reducible refine LimIs.ite ?_ ?_)
    | (with_reducible refine LimIs.bind ?_ (fun _ => ?_))
    | exact slices_IndexFunc_int_int.F_is _ _
    | exact LimIs.const _
    | refine LimIs.ite ?_ ?_
    | refine LimIs.bind ?_ (fun _ => ?_)
set_option maxRecDepth 100000 in
theorem dist_small.F_eq (l0 : List Int) : dist_small.F l0 = if (l0.length : Int) ≤ 16 then ((slices_ContainsFunc_int_int.F l0 990000053).bind fun t106 => (some (!t106))) else (some false) := by
  refine LimIs.out (?_ : LimIs (fun k => if (l0.length : Int) ≤ 16 then ((slices_ContainsFunc_int_int.f k l0 990000053).bind fun t106 => (some (!t106))) else (some false)) _)
  repeat' first
    | (with_reducible exact slices_ContainsFunc_int_int.F_is _ _)
    | (with_reducible exact LimIs.const _)
    | (with_reducible refine LimIs.ite ?_ ?_)
    | (with_reducible refine LimIs.bind ?_ (fun _ => ?_))
    | exact slices_ContainsFunc_int_int.F_is _ _
    | exact LimIs.const _
    | refine LimIs.ite ?_ ?_
    | refine LimIs.bind ?_ (fun _ => ?_)
set_option maxRecDepth 100000 in
theorem dist_total.F_eq (l0 : List (S38)) : dist_total.F l0 = dist_total.L0 0 l0 (l0.length : Int) 0 := by
  refine LimIs.out (?_ : LimIs (fun k => dist_total.l0 k 0 l0 (l0.length : Int) 0) _)
  repeat' first
    | (with_reducible exact dist_total.L0_is _ _ _ _)
    | (with_reducible exact LimIs.const _)
    | (with_reducible refine LimIs.ite ?_ ?_)
    | (with_reducible refine LimIs.bind ?_ (fun _ => ?_))
    | exact dist_total.L0_is _ _ _ _
    | exact LimIs.const _
    | refine LimIs.ite ?_ ?_
    | refine LimIs.bind ?_ (fun _ => ?_)
set_option maxRecDepth 100000 in
theorem dist_gcd.F_eq (a0 : Int) (a1 : Int) : dist_gcd.F a0 a1 = dist_gcd.L0 a0 a1 := by
  refine LimIs.out (?_ : LimIs (fun k => dist_gcd.l0 k a0 a1) _)
  repeat' first
    | (with_reducible exact dist_gcd.L0_is _ _)
    | (with_reducible exact LimIs.const _)
    | (with_reducible refine LimIs.ite ?_ ?_)
    | (with_reducible refine LimIs.bind ?_ (fun _ => ?_))
    | exact dist_gcd.L0_is _ _
    | exact LimIs.const _
    | refine LimIs.ite ?_ ?_
    | refine LimIs.bind ?_ (fun _ => ?_)
end Go.Proofs.Ytfoolbcfpedhmaa.PA
end
section
namespace Go.Proofs.Ytfoolbcfpedhmaa.PA
open Go.RowKit Go.Proofs.YtfoolbcfpedhmaaW.PrintWords Go.Proofs.YtfoolbcfpedhmaaW.PrintLast Go.Proofs.YtfoolbcfpedhmaaW.PrintMore
open Go.Proofs.YtfoolbcfpedhmaaW.EvKit
set_option linter.unusedVariables false
noncomputable def slices_Compare_int_int.L0 (x0 : List Int) (x1 : List Int) (x9 : List Int) (x10 : Int) (x11 : Int) : Option (Int) := lim (fun k => slices_Compare_int_int.l0 k x0 x1 x9 x10 x11)
theorem slices_Compare_int_int.L0_is (x0 : List Int) (x1 : List Int) (x9 : List Int) (x10 : Int) (x11 : Int) : LimIs (fun k => slices_Compare_int_int.l0 k x0 x1 x9 x10 x11) (slices_Compare_int_int.L0 x0 x1 x9 x10 x11) := ⟨fun k => (slices_Compare_int_int.mono_l k) x0 x1 x9 x10 x11, rfl⟩
noncomputable def slices_Equal_int_int.L0 (x0 : List Int) (x1 : List Int) (x12 : Int) (x13 : Int) : Option (Bool) := lim (fun k => slices_Equal_int_int.l0 k x0 x1 x12 x13)
theorem slices_Equal_int_int.L0_is (x0 : List Int) (x1 : List Int) (x12 : Int) (x13 : Int) : LimIs (fun k => slices_Equal_int_int.l0 k x0 x1 x12 x13) (slices_Equal_int_int.L0 x0 x1 x12 x13) := ⟨fun k => (slices_Equal_int_int.mono_l k) x0 x1 x12 x13, rfl⟩
noncomputable def slices_Compare_int_int.F (l0 : List Int) (l1 : List Int) : Option (Int) := lim (fun k => slices_Compare_int_int.f k l0 l1)
theorem slices_Compare_int_int.F_is (l0 : List Int) (l1 : List Int) : LimIs (fun k => slices_Compare_int_int.f k l0 l1) (slices_Compare_int_int.F l0 l1) := ⟨fun k => slices_Compare_int_int.mono l0 l1 k, rfl⟩
noncomputable def slices_Equal_int_int.F (l0 : List Int) (l1 : List Int) : Option (Bool) := lim (fun k => slices_Equal_int_int.f k l0 l1)
theorem slices_Equal_int_int.F_is (l0 : List Int) (l1 : List Int) : LimIs (fun k => slices_Equal_int_int.f k l0 l1) (slices_Equal_int_int.F l0 l1) := ⟨fun k => slices_Equal_int_int.mono l0 l1 k, rfl⟩
set_option maxRecDepth 100000 in
theorem slices_Compare_int_int.L0_eq (x0 : List Int) (x1 : List Int) (x9 : List Int) (x10 : Int) (x11 : Int) : slices_Compare_int_int.L0 x0 x1 x9 x10 x11 = if x11 < x10 then (if 0 ≤ x11 then (if x11 < (x9.length : Int) then (if x11 ≥ (x1.length : Int) then (some 1) else (if x11 < (x1.length : Int) then ((cmp_Compare_int.f (rd x9 x11) (rd x1 x11)).bind fun t113 => (if t113 = 0 then (slices_Compare_int_int.L0 x0 x1 x9 x10 (wrap64 (x11 + 1))) else (some t113))) else (none))) else (none)) else (none)) else (if (x0.length : Int) < (x1.length : Int) then (some (-1)) else (some 0)) := by
  refine LimIs.step' (slices_Compare_int_int.L0_is x0 x1 x9 x10 x11).1 (b := fun k => if x11 < x10 then (if 0 ≤ x11 then (if x11 < (x9.length : Int) then (if x11 ≥ (x1.length : Int) then (some 1) else (if x11 < (x1.length : Int) then ((cmp_Compare_int.f (rd x9 x11) (rd x1 x11)).bind fun t113 => (if t113 = 0 then (slices_Compare_int_int.l0 k x0 x1 x9 x10 (wrap64 (x11 + 1))) else (some t113))) else (none))) else (none)) else (none)) else (if (x0.length : Int) < (x1.length : Int) then (some (-1)) else (some 0))) (fun k => by first | rfl | rw [slices_Compare_int_int.l0]) ?_
  repeat' first
    | (with_reducible exact slices_Compare_int_int.L0_is _ _ _ _ _)
    | (with_reducible exact LimIs.const _)
    | (with_reducible refine LimIs.ite ?_ ?_)
    | (with_reducible refine LimIs.bind ?_ (fun _ => ?_))
    | exact slices_Compare_int_int.L0_is _ _ _ _ _
    | exact LimIs.const _
    | refine LimIs.ite ?_ ?_
    | refine LimIs.bind ?_ (fun _ => ?_)
set_option maxRecDepth 100000 in
theorem slices_Equal_int_int.L0_eq (x0 : List Int) (x1 : List Int) (x12 : Int) (x13 : Int) : slices_Equal_int_int.L0 x0 x1 x12 x13 = if x13 < x12 then (if 0 ≤ x13 then (if x13 < (x0.length : Int) then (if x13 < (x1.length : Int) then (if (rd x0 x13) = (rd x1 x13) then (slices_Equal_int_int.L0 x0 x1 x12 (wrap64 (x13 + 1))) else (some false)) else (none)) else (none)) else (none)) else (some true) := by
  refine LimIs.step' (slices_Equal_int_int.L0_is x0 x1 x12 x13).1 (b := fun k => if x13 < x12 then (if 0 ≤ x13 then (if x13 < (x0.length : Int) then (if x13 < (x1.length : Int) then (if (rd x0 x13) = (rd x1 x13) then (slices_Equal_int_int.l0 k x0 x1 x12 (wrap64 (x13 + 1))) else (some false)) else (none)) else (none)) else (none)) else (some true)) (fun k => by first | rfl | rw [slices_Equal_int_int.l0]) ?_
  repeat' first
    | (with_reducible exact slices_Equal_int_int.L0_is _ _ _ _)
    | (with_reducible exact LimIs.const _)
    | (with_reducible refine LimIs.ite ?_ ?_)
    | (with_reducible refine LimIs.bind ?_ (fun _ => ?_))
    | exact slices_Equal_int_int.L0_is _ _ _ _
    | exact LimIs.const _
    | refine LimIs.ite ?_ ?_
    | refine LimIs.bind ?_ (fun _ => ?_)
set_option maxRecDepth 100000 in
theorem slices_Compare_int_int.F_eq (l0 : List Int) (l1 : List Int) : slices_Compare_int_int.F l0 l1 = slices_Compare_int_int.L0 l0 l1 l0 (l0.length : Int) 0 := by
  refine LimIs.out (?_ : LimIs (fun k => slices_Compare_int_int.l0 k l0 l1 l0 (l0.length : Int) 0) _)
  repeat' first
    | (with_reducible exact slices_Compare_int_int.L0_is _ _ _ _ _)
    | (with_reducible exact LimIs.const _)
    | (with_reducible refine LimIs.ite ?_ ?_)
    | (with_reducible refine LimIs.bind ?_ (fun _ => ?_))
    | exact slices_Compare_int_int.L0_is _ _ _ _ _
    | exact LimIs.const _
    | refine LimIs.ite ?_ ?_
    | refine LimIs.bind ?_ (fun _ => ?_)
set_option maxRecDepth 100000 in
theorem slices_Equal_int_int.F_eq (l0 : List Int) (l1 : List Int) : slices_Equal_int_int.F l0 l1 = if (l0.length : Int) = (l1.length : Int) then (slices_Equal_int_int.L0 l0 l1 (l0.length : Int) 0) else (some false) := by
  refine LimIs.out (?_ : LimIs (fun k => if (l0.length : Int) = (l1.length : Int) then (slices_Equal_int_int.l0 k l0 l1 (l0.length : Int) 0) else (some false)) _)
  repeat' first
    | (with_reducible exact slices_Equal_int_int.L0_is _ _ _ _)
    | (with_reducible exact LimIs.const _)
    | (with_reducible refine LimIs.ite ?_ ?_)
    | (with_reducible refine LimIs.bind ?_ (fun _ => ?_))
    | exact slices_Equal_int_int.L0_is _ _ _ _
    | exact LimIs.const _
    | refine LimIs.ite ?_ ?_
    | refine LimIs.bind ?_ (fun _ => ?_)
end Go.Proofs.Ytfoolbcfpedhmaa.PA
end
section
namespace Go.Proofs.Ytfoolbcfpedhmaa.PA
open Go.RowKit Go.Proofs.YtfoolbcfpedhmaaW.PrintWords Go.Proofs.YtfoolbcfpedhmaaW.PrintLast Go.Proofs.YtfoolbcfpedhmaaW.PrintMore
open Go.Proofs.YtfoolbcfpedhmaaW.EvKit
set_option linter.unusedVariables false
noncomputable def dist_tidy.F (l0 : List S38) : Option (List S38 × Int) := lim (fun k => dist_tidy.f k l0)
theorem dist_tidy.F_is (l0 : List S38) : LimIs (fun k => dist_tidy.f k l0) (dist_tidy.F l0) := ⟨fun k => dist_tidy.mono l0 k, rfl⟩
set_option maxRecDepth 100000 in
theorem dist_tidy.F_eq (l0 : List S38) : dist_tidy.F l0 = if tGuard l0 = true then some (tDone (tMerge (sortP l0))) else none := by
  refine LimIs.out (?_ : LimIs (fun k => if tGuard l0 = true then some (tDone (tMerge (sortP l0))) else none) _)
  repeat' first
    | (with_reducible exact LimIs.const _)
    | (with_reducible refine LimIs.ite ?_ ?_)
    | (with_reducible refine LimIs.bind ?_ (fun _ => ?_))
    | exact LimIs.const _
    | refine LimIs.ite ?_ ?_
    | refine LimIs.bind ?_ (fun _ => ?_)
end Go.Proofs.Ytfoolbcfpedhmaa.PA
end
section
namespace Go.Proofs.Ytfoolbcfpedhmaa.PA
open Go.RowKit Go.Proofs.YtfoolbcfpedhmaaW.PrintWords Go.Proofs.YtfoolbcfpedhmaaW.PrintLast Go.Proofs.YtfoolbcfpedhmaaW.PrintMore
open Go.Proofs.YtfoolbcfpedhmaaW.EvKit
set_option linter.unusedVariables false
noncomputable def crowd_gathered.F (l0 : List S38) : Option (List S38) := lim (fun k => crowd_gathered.f k l0)
theorem crowd_gathered.F_is (l0 : List S38) : LimIs (fun k => crowd_gathered.f k l0) (crowd_gathered.F l0) := ⟨fun k => crowd_gathered.mono l0 k, rfl⟩
set_option maxRecDepth 100000 in
theorem crowd_gathered.F_eq (l0 : List S38) : crowd_gathered.F l0 = if gGuard l0 = true then some (tMerge (sortP l0)) else none := by
  refine LimIs.out (?_ : LimIs (fun k => if gGuard l0 = true then some (tMerge (sortP l0)) else none) _)
  repeat' first
    | (with_reducible exact LimIs.const _)
    | (with_reducible refine LimIs.ite ?_ ?_)
    | (with_reducible refine LimIs.bind ?_ (fun _ => ?_))
    | exact LimIs.const _
    | refine LimIs.ite ?_ ?_
    | refine LimIs.bind ?_ (fun _ => ?_)
end Go.Proofs.Ytfoolbcfpedhmaa.PA
end
section
namespace Go.Proofs.Ytfoolbcfpedhmaa.PA
open Go.RowKit Go.Proofs.YtfoolbcfpedhmaaW.PrintWords Go.Proofs.YtfoolbcfpedhmaaW.PrintLast Go.Proofs.YtfoolbcfpedhmaaW.PrintMore
open Go.Proofs.YtfoolbcfpedhmaaW.EvKit
set_option linter.unusedVariables false
noncomputable def dist_Make.L0 (x4 : List (S38)) (x7 : List (S38)) (x8 : Int) (x9 : Int) : Option ((List (S38)) × Int) := lim (fun k => dist_Make.l0 k x4 x7 x8 x9)
theorem dist_Make.L0_is (x4 : List (S38)) (x7 : List (S38)) (x8 : Int) (x9 : Int) : LimIs (fun k => dist_Make.l0 k x4 x7 x8 x9) (dist_Make.L0 x4 x7 x8 x9) := ⟨fun k => (dist_Make.mono_l k) x4 x7 x8 x9, rfl⟩
noncomputable def ratio_gcd.L0 (x0 : Int) (x1 : Int) : Option (Int) := lim (fun k => ratio_gcd.l0 k x0 x1)
theorem ratio_gcd.L0_is (x0 : Int) (x1 : Int) : LimIs (fun k => ratio_gcd.l0 k x0 x1) (ratio_gcd.L0 x0 x1) := ⟨fun k => (ratio_gcd.mono_l k) x0 x1, rfl⟩
noncomputable def dist_Make.F (l0 : List (S38)) : Option ((List (S38)) × Int) := lim (fun k => dist_Make.f k l0)
theorem dist_Make.F_is (l0 : List (S38)) : LimIs (fun k => dist_Make.f k l0) (dist_Make.F l0) := ⟨fun k => dist_Make.mono l0 k, rfl⟩
noncomputable def ratio_gcd.F (a0 : Int) (a1 : Int) : Option (Int) := lim (fun k => ratio_gcd.f k a0 a1)
theorem ratio_gcd.F_is (a0 : Int) (a1 : Int) : LimIs (fun k => ratio_gcd.f k a0 a1) (ratio_gcd.F a0 a1) := ⟨fun k => ratio_gcd.mono a0 a1 k, rfl⟩
set_option maxRecDepth 100000 in
theorem dist_Make.L0_eq (x4 : List (S38)) (x7 : List (S38)) (x8 : Int) (x9 : Int) : dist_Make.L0 x4 x7 x8 x9 = if x9 < x8 then (if 0 ≤ x9 then (if x9 < (x7.length : Int) then ((dist_small.F ((rd_T38 x7 x9).f0)).bind fun t122 => (if t122 = true then (if ((rd_T38 x7 x9).f1) < 0 then (some (([] : List (S38)), 3)) else (if ((rd_T38 x7 x9).f1) > 1073741824 then (some (([] : List (S38)), 3)) else ((slices_Clone_int_int.f ((rd_T38 x7 x9).f0)).bind fun t123 => (if x4.length < 4398046511104 then (dist_Make.L0 (x4 ++ [(⟨t123, (rd_T38 x7 x9).f1⟩ : S38)]) x7 x8 (wrap64 (x9 + 1))) else (none))))) else (some (([] : List (S38)), 3)))) else (none)) else (none)) else ((dist_tidy.F x4).bind fun bt116 => (some (bt116.1, bt116.2))) := by
  refine LimIs.step' (dist_Make.L0_is x4 x7 x8 x9).1 (b := fun k => if x9 < x8 then (if 0 ≤ x9 then (if x9 < (x7.length : Int) then ((dist_small.f k ((rd_T38 x7 x9).f0)).bind fun t122 => (if t122 = true then (if ((rd_T38 x7 x9).f1) < 0 then (some (([] : List (S38)), 3)) else (if ((rd_T38 x7 x9).f1) > 1073741824 then (some (([] : List (S38)), 3)) else ((slices_Clone_int_int.f ((rd_T38 x7 x9).f0)).bind fun t123 => (if x4.length < 4398046511104 then (dist_Make.l0 k (x4 ++ [(⟨t123, (rd_T38 x7 x9).f1⟩ : S38)]) x7 x8 (wrap64 (x9 + 1))) else (none))))) else (some (([] : List (S38)), 3)))) else (none)) else (none)) else ((dist_tidy.f k x4).bind fun bt116 => (some (bt116.1, bt116.2)))) (fun k => by first | rfl | rw [dist_Make.l0]) ?_
  repeat' first
    | (with_reducible exact dist_small.F_is _)
    | (with_reducible exact dist_Make.L0_is _ _ _ _)
    | (with_reducible exact dist_tidy.F_is _)
    | (with_reducible exact LimIs.const _)
    | (with_reducible refine LimIs.ite ?_ ?_)
    | (with_reducible refine LimIs.bind ?_ (fun _ => ?_))
    | exact dist_small.F_is _
    | exact dist_Make.L0_is _ _ _ _
    | exact dist_tidy.F_is _
    | exact LimIs.const _
    | refine LimIs.ite ?_ ?_
    | refine LimIs.bind ?_ (fun _ => ?_)
set_option maxRecDepth 100000 in
theorem ratio_gcd.L0_eq (x0 : Int) (x1 : Int) : ratio_gcd.L0 x0 x1 = if x1 = 0 then (some x0) else (ratio_gcd.L0 x1 (Int.tmod x0 x1)) := by
  refine LimIs.step' (ratio_gcd.L0_is x0 x1).1 (b := fun k => if x1 = 0 then (some x0) else (ratio_gcd.l0 k x1 (Int.tmod x0 x1))) (fun k => by first | rfl | rw [ratio_gcd.l0]) ?_
  repeat' first
    | (with_reducible exact ratio_gcd.L0_is _ _)
    | (with_reducible exact LimIs.const _)
    | (with_reducible refine LimIs.ite ?_ ?_)
    | (with_reducible refine LimIs.bind ?_ (fun _ => ?_))
    | exact ratio_gcd.L0_is _ _
    | exact LimIs.const _
    | refine LimIs.ite ?_ ?_
    | refine LimIs.bind ?_ (fun _ => ?_)
set_option maxRecDepth 100000 in
theorem dist_Make.F_eq (l0 : List (S38)) : dist_Make.F l0 = dist_Make.L0 ([] : List (S38)) l0 (l0.length : Int) 0 := by
  refine LimIs.out (?_ : LimIs (fun k => dist_Make.l0 k ([] : List (S38)) l0 (l0.length : Int) 0) _)
  repeat' first
    | (with_reducible exact dist_Make.L0_is _ _ _ _)
    | (with_reducible exact LimIs.const _)
    | (with_reducible refine LimIs.ite ?_ ?_)
    | (with_reducible refine LimIs.bind ?_ (fun _ => ?_))
    | exact dist_Make.L0_is _ _ _ _
    | exact LimIs.const _
    | refine LimIs.ite ?_ ?_
    | refine LimIs.bind ?_ (fun _ => ?_)
set_option maxRecDepth 100000 in
theorem ratio_gcd.F_eq (a0 : Int) (a1 : Int) : ratio_gcd.F a0 a1 = ratio_gcd.L0 a0 a1 := by
  refine LimIs.out (?_ : LimIs (fun k => ratio_gcd.l0 k a0 a1) _)
  repeat' first
    | (with_reducible exact ratio_gcd.L0_is _ _)
    | (with_reducible exact LimIs.const _)
    | (with_reducible refine LimIs.ite ?_ ?_)
    | (with_reducible refine LimIs.bind ?_ (fun _ => ?_))
    | exact ratio_gcd.L0_is _ _
    | exact LimIs.const _
    | refine LimIs.ite ?_ ?_
    | refine LimIs.bind ?_ (fun _ => ?_)
end Go.Proofs.Ytfoolbcfpedhmaa.PA
end
section
namespace Go.Proofs.Ytfoolbcfpedhmaa.PA
open Go.RowKit Go.Proofs.YtfoolbcfpedhmaaW.PrintWords Go.Proofs.YtfoolbcfpedhmaaW.PrintLast Go.Proofs.YtfoolbcfpedhmaaW.PrintMore
open Go.Proofs.YtfoolbcfpedhmaaW.EvKit
set_option linter.unusedVariables false
noncomputable def ratio_Right.F (a0_0 : Int) (a0_1 : Int) : Option (Bool) := lim (fun k => ratio_Right.f k a0_0 a0_1)
theorem ratio_Right.F_is (a0_0 : Int) (a0_1 : Int) : LimIs (fun k => ratio_Right.f k a0_0 a0_1) (ratio_Right.F a0_0 a0_1) := ⟨fun k => ratio_Right.mono a0_0 a0_1 k, rfl⟩
noncomputable def noise_loss.F (a0_0 : Int) (a0_1 : Int) : Option (Int) := lim (fun k => noise_loss.f k a0_0 a0_1)
theorem noise_loss.F_is (a0_0 : Int) (a0_1 : Int) : LimIs (fun k => noise_loss.f k a0_0 a0_1) (noise_loss.F a0_0 a0_1) := ⟨fun k => noise_loss.mono a0_0 a0_1 k, rfl⟩
set_option maxRecDepth 100000 in
theorem ratio_Right.F_eq (a0_0 : Int) (a0_1 : Int) : ratio_Right.F a0_0 a0_1 = if a0_0 ≥ 0 then (if a0_1 ≥ 1 then (if a0_0 ≤ 1073741824 then (if a0_1 ≤ 1073741824 then ((ratio_gcd.F a0_0 a0_1).bind fun t130 => (some (t130 == 1))) else (some false)) else (some false)) else (some false)) else (some false) := by
  refine LimIs.out (?_ : LimIs (fun k => if a0_0 ≥ 0 then (if a0_1 ≥ 1 then (if a0_0 ≤ 1073741824 then (if a0_1 ≤ 1073741824 then ((ratio_gcd.f k a0_0 a0_1).bind fun t130 => (some (t130 == 1))) else (some false)) else (some false)) else (some false)) else (some false)) _)
  repeat' first
    | (with_reducible exact ratio_gcd.F_is _ _)
    | (with_reducible exact LimIs.const _)
    | (with_reducible refine LimIs.ite ?_ ?_)
    | (with_reducible refine LimIs.bind ?_ (fun _ => ?_))
    | exact ratio_gcd.F_is _ _
    | exact LimIs.const _
    | refine LimIs.ite ?_ ?_
    | refine LimIs.bind ?_ (fun _ => ?_)
set_option maxRecDepth 100000 in
theorem noise_loss.F_eq (a0_0 : Int) (a0_1 : Int) : noise_loss.F a0_0 a0_1 = (ratio_Right.F a0_0 a0_1).bind fun t132 => (if t132 = true then (if a0_0 < a0_1 then (some (3 : Int)) else (some (0 : Int))) else (some (2 : Int))) := by
  refine LimIs.out (?_ : LimIs (fun k => (ratio_Right.f k a0_0 a0_1).bind fun t132 => (if t132 = true then (if a0_0 < a0_1 then (some (3 : Int)) else (some (0 : Int))) else (some (2 : Int)))) _)
  repeat' first
    | (with_reducible exact ratio_Right.F_is _ _)
    | (with_reducible exact LimIs.const _)
    | (with_reducible refine LimIs.ite ?_ ?_)
    | (with_reducible refine LimIs.bind ?_ (fun _ => ?_))
    | exact ratio_Right.F_is _ _
    | exact LimIs.const _
    | refine LimIs.ite ?_ ?_
    | refine LimIs.bind ?_ (fun _ => ?_)
end Go.Proofs.Ytfoolbcfpedhmaa.PA
end
section
namespace Go.Proofs.Ytfoolbcfpedhmaa.PA
open Go.RowKit Go.Proofs.YtfoolbcfpedhmaaW.PrintWords Go.Proofs.YtfoolbcfpedhmaaW.PrintLast Go.Proofs.YtfoolbcfpedhmaaW.PrintMore
open Go.Proofs.YtfoolbcfpedhmaaW.EvKit
set_option linter.unusedVariables false
noncomputable def noise_Respond.J0 (x1 : Int) (x2 : Int) (x32 : Bool) (x134000 : Int) (x134001 : Int) : Option ((List (S38)) × Int) := lim (fun k => noise_Respond.j0 k x1 x2 x32 x134000 x134001)
theorem noise_Respond.J0_is (x1 : Int) (x2 : Int) (x32 : Bool) (x134000 : Int) (x134001 : Int) : LimIs (fun k => noise_Respond.j0 k x1 x2 x32 x134000 x134001) (noise_Respond.J0 x1 x2 x32 x134000 x134001) := ⟨fun k => (noise_Respond.mono_l k).1 x1 x2 x32 x134000 x134001, rfl⟩
noncomputable def noise_Respond.L0 (x10 : List (S38)) (x52 : List Int) (x53 : Int) (x54 : Int) : Option ((List (S38)) × Int) := lim (fun k => noise_Respond.l0 k x10 x52 x53 x54)
theorem noise_Respond.L0_is (x10 : List (S38)) (x52 : List Int) (x53 : Int) (x54 : Int) : LimIs (fun k => noise_Respond.l0 k x10 x52 x53 x54) (noise_Respond.L0 x10 x52 x53 x54) := ⟨fun k => (noise_Respond.mono_l k).2 x10 x52 x53 x54, rfl⟩
noncomputable def noise_Respond.F (a0_0 : Int) (a0_1 : Int) (a1 : Int) (a2 : Int) : Option ((List (S38)) × Int) := lim (fun k => noise_Respond.f k a0_0 a0_1 a1 a2)
theorem noise_Respond.F_is (a0_0 : Int) (a0_1 : Int) (a1 : Int) (a2 : Int) : LimIs (fun k => noise_Respond.f k a0_0 a0_1 a1 a2) (noise_Respond.F a0_0 a0_1 a1 a2) := ⟨fun k => noise_Respond.mono a0_0 a0_1 a1 a2 k, rfl⟩
set_option maxRecDepth 100000 in
theorem noise_Respond.J0_eq (x1 : Int) (x2 : Int) (x32 : Bool) (x134000 : Int) (x134001 : Int) : noise_Respond.J0 x1 x2 x32 x134000 x134001 = if x32 = true then (some (([] : List (S38)), 3)) else (if (wrap64 (x134000 + (wrap64 ((wrap64 (x1 - 1)) * x134001)))) > 1073741824 then (some (([] : List (S38)), 4)) else ((slices_Repeat_int_int.f (([x134001] : List Int)) x1).bind fun t138 => (if 0 ≤ x2 then (if x2 < (t138.length : Int) then (noise_Respond.L0 ([] : List (S38)) (t138.set (x2 : Int).toNat x134000) (t138.length : Int) 0) else (none)) else (none)))) := by
  refine LimIs.step' (noise_Respond.J0_is x1 x2 x32 x134000 x134001).1 (b := fun k => if x32 = true then (some (([] : List (S38)), 3)) else (if (wrap64 (x134000 + (wrap64 ((wrap64 (x1 - 1)) * x134001)))) > 1073741824 then (some (([] : List (S38)), 4)) else ((slices_Repeat_int_int.f (([x134001] : List Int)) x1).bind fun t138 => (if 0 ≤ x2 then (if x2 < (t138.length : Int) then (noise_Respond.l0 k ([] : List (S38)) (t138.set (x2 : Int).toNat x134000) (t138.length : Int) 0) else (none)) else (none))))) (fun k => by first | rfl | rw [noise_Respond.j0]) ?_
  repeat' first
    | (with_reducible exact noise_Respond.L0_is _ _ _ _)
    | (with_reducible exact LimIs.const _)
    | (with_reducible refine LimIs.ite ?_ ?_)
    | (with_reducible refine LimIs.bind ?_ (fun _ => ?_))
    | exact noise_Respond.L0_is _ _ _ _
    | exact LimIs.const _
    | refine LimIs.ite ?_ ?_
    | refine LimIs.bind ?_ (fun _ => ?_)
set_option maxRecDepth 100000 in
theorem noise_Respond.L0_eq (x10 : List (S38)) (x52 : List Int) (x53 : Int) (x54 : Int) : noise_Respond.L0 x10 x52 x53 x54 = if x54 < x53 then (if 0 ≤ x54 then (if x54 < (x52.length : Int) then (if x10.length < 4398046511104 then (noise_Respond.L0 (x10 ++ [(⟨(([x54] : List Int)), rd x52 x54⟩ : S38)]) x52 x53 (wrap64 (x54 + 1))) else (none)) else (none)) else (none)) else ((dist_Make.F x10).bind fun bt149 => (some (bt149.1, bt149.2))) := by
  refine LimIs.step' (noise_Respond.L0_is x10 x52 x53 x54).1 (b := fun k => if x54 < x53 then (if 0 ≤ x54 then (if x54 < (x52.length : Int) then (if x10.length < 4398046511104 then (noise_Respond.l0 k (x10 ++ [(⟨(([x54] : List Int)), rd x52 x54⟩ : S38)]) x52 x53 (wrap64 (x54 + 1))) else (none)) else (none)) else (none)) else ((dist_Make.f k x10).bind fun bt149 => (some (bt149.1, bt149.2)))) (fun k => by first | rfl | rw [noise_Respond.l0]) ?_
  repeat' first
    | (with_reducible exact noise_Respond.L0_is _ _ _ _)
    | (with_reducible exact dist_Make.F_is _)
    | (with_reducible exact LimIs.const _)
    | (with_reducible refine LimIs.ite ?_ ?_)
    | (with_reducible refine LimIs.bind ?_ (fun _ => ?_))
    | exact noise_Respond.L0_is _ _ _ _
    | exact dist_Make.F_is _
    | exact LimIs.const _
    | refine LimIs.ite ?_ ?_
    | refine LimIs.bind ?_ (fun _ => ?_)
set_option maxRecDepth 100000 in
theorem noise_Respond.F_eq (a0_0 : Int) (a0_1 : Int) (a1 : Int) (a2 : Int) : noise_Respond.F a0_0 a0_1 a1 a2 = (noise_loss.F a0_0 a0_1).bind fun t134 => (if t134 = 0 then (if a1 < 1 then (noise_Respond.J0 a1 a2 true a0_0 a0_1) else (if a1 > 4096 then (noise_Respond.J0 a1 a2 true a0_0 a0_1) else (if a2 < 0 then (noise_Respond.J0 a1 a2 true a0_0 a0_1) else (noise_Respond.J0 a1 a2 (decide (a2 ≥ a1)) a0_0 a0_1)))) else (some (([] : List (S38)), t134))) := by
  refine LimIs.out (?_ : LimIs (fun k => (noise_loss.f k a0_0 a0_1).bind fun t134 => (if t134 = 0 then (if a1 < 1 then (noise_Respond.j0 k a1 a2 true a0_0 a0_1) else (if a1 > 4096 then (noise_Respond.j0 k a1 a2 true a0_0 a0_1) else (if a2 < 0 then (noise_Respond.j0 k a1 a2 true a0_0 a0_1) else (noise_Respond.j0 k a1 a2 (decide (a2 ≥ a1)) a0_0 a0_1)))) else (some (([] : List (S38)), t134)))) _)
  repeat' first
    | (with_reducible exact noise_loss.F_is _ _)
    | (with_reducible exact noise_Respond.J0_is _ _ _ _ _)
    | (with_reducible exact LimIs.const _)
    | (with_reducible refine LimIs.ite ?_ ?_)
    | (with_reducible refine LimIs.bind ?_ (fun _ => ?_))
    | exact noise_loss.F_is _ _
    | exact noise_Respond.J0_is _ _ _ _ _
    | exact LimIs.const _
    | refine LimIs.ite ?_ ?_
    | refine LimIs.bind ?_ (fun _ => ?_)
end Go.Proofs.Ytfoolbcfpedhmaa.PA
end
section
namespace Go.Proofs.Ytfoolbcfpedhmaa.PA
open Go.RowKit Go.Proofs.YtfoolbcfpedhmaaW.PrintWords Go.Proofs.YtfoolbcfpedhmaaW.PrintLast Go.Proofs.YtfoolbcfpedhmaaW.PrintMore
open Go.Proofs.YtfoolbcfpedhmaaW.EvKit
set_option linter.unusedVariables false
noncomputable def crowd_people.J0 (x1 : Int) (x2 : List Int) (x19 : Bool) (x154000 : Int) (x154001 : Int) : Option (Int × Int) := lim (fun k => crowd_people.j0 k x1 x2 x19 x154000 x154001)
theorem crowd_people.J0_is (x1 : Int) (x2 : List Int) (x19 : Bool) (x154000 : Int) (x154001 : Int) : LimIs (fun k => crowd_people.j0 k x1 x2 x19 x154000 x154001) (crowd_people.J0 x1 x2 x19 x154000 x154001) := ⟨fun k => (crowd_people.mono_l k).1 x1 x2 x19 x154000 x154001, rfl⟩
noncomputable def crowd_people.L0 (x1 : Int) (x2 : List Int) (x25 : List Int) (x26 : Int) (x27 : Int) (x154000 : Int) (x154001 : Int) : Option (Int × Int) := lim (fun k => crowd_people.l0 k x1 x2 x25 x26 x27 x154000 x154001)
theorem crowd_people.L0_is (x1 : Int) (x2 : List Int) (x25 : List Int) (x26 : Int) (x27 : Int) (x154000 : Int) (x154001 : Int) : LimIs (fun k => crowd_people.l0 k x1 x2 x25 x26 x27 x154000 x154001) (crowd_people.L0 x1 x2 x25 x26 x27 x154000 x154001) := ⟨fun k => (crowd_people.mono_l k).2.1 x1 x2 x25 x26 x27 x154000 x154001, rfl⟩
noncomputable def crowd_people.L1 (x12 : Int) (x13 : Int) (x51 : Int) (x52 : Int) : Option (Int × Int) := lim (fun k => crowd_people.l1 k x12 x13 x51 x52)
theorem crowd_people.L1_is (x12 : Int) (x13 : Int) (x51 : Int) (x52 : Int) : LimIs (fun k => crowd_people.l1 k x12 x13 x51 x52) (crowd_people.L1 x12 x13 x51 x52) := ⟨fun k => (crowd_people.mono_l k).2.2 x12 x13 x51 x52, rfl⟩
noncomputable def crowd_people.F (a0_0 : Int) (a0_1 : Int) (a1 : Int) (l2 : List Int) : Option (Int × Int) := lim (fun k => crowd_people.f k a0_0 a0_1 a1 l2)
theorem crowd_people.F_is (a0_0 : Int) (a0_1 : Int) (a1 : Int) (l2 : List Int) : LimIs (fun k => crowd_people.f k a0_0 a0_1 a1 l2) (crowd_people.F a0_0 a0_1 a1 l2) := ⟨fun k => crowd_people.mono a0_0 a0_1 a1 l2 k, rfl⟩
set_option maxRecDepth 100000 in
theorem crowd_people.J0_eq (x1 : Int) (x2 : List Int) (x19 : Bool) (x154000 : Int) (x154001 : Int) : crowd_people.J0 x1 x2 x19 x154000 x154001 = if x19 = true then (some (0, 3)) else (if (x2.length : Int) > 12 then (some (0, 5)) else ((some (([0] : List Int) : List Int)).bind fun y154 => (if y154.length + x2.length < 17592186044416 then ((some (y154 ++ x2 : List Int)).bind fun y157 => (crowd_people.L0 x1 x2 y157 (y157.length : Int) 0 x154000 x154001)) else (none)))) := by
  refine LimIs.step' (crowd_people.J0_is x1 x2 x19 x154000 x154001).1 (b := fun k => if x19 = true then (some (0, 3)) else (if (x2.length : Int) > 12 then (some (0, 5)) else ((some (([0] : List Int) : List Int)).bind fun y154 => (if y154.length + x2.length < 17592186044416 then ((some (y154 ++ x2 : List Int)).bind fun y157 => (crowd_people.l0 k x1 x2 y157 (y157.length : Int) 0 x154000 x154001)) else (none))))) (fun k => by first | rfl | rw [crowd_people.j0]) ?_
  repeat' first
    | (with_reducible exact crowd_people.L0_is _ _ _ _ _ _ _)
    | (with_reducible exact LimIs.const _)
    | (with_reducible refine LimIs.ite ?_ ?_)
    | (with_reducible refine LimIs.bind ?_ (fun _ => ?_))
    | exact crowd_people.L0_is _ _ _ _ _ _ _
    | exact LimIs.const _
    | refine LimIs.ite ?_ ?_
    | refine LimIs.bind ?_ (fun _ => ?_)
set_option maxRecDepth 100000 in
theorem crowd_people.L0_eq (x1 : Int) (x2 : List Int) (x25 : List Int) (x26 : Int) (x27 : Int) (x154000 : Int) (x154001 : Int) : crowd_people.L0 x1 x2 x25 x26 x27 x154000 x154001 = if x27 < x26 then (if 0 ≤ x27 then (if x27 < (x25.length : Int) then ((noise_Respond.F x154000 x154001 x1 (rd x25 x27)).bind fun bt161 => (if bt161.2 = 0 then (crowd_people.L0 x1 x2 x25 x26 (wrap64 (x27 + 1)) x154000 x154001) else (some (0, bt161.2)))) else (none)) else (none)) else (crowd_people.L1 (wrap64 (x154000 + (wrap64 ((wrap64 (x1 - 1)) * x154001)))) 1 (x2.length : Int) 0) := by
  refine LimIs.step' (crowd_people.L0_is x1 x2 x25 x26 x27 x154000 x154001).1 (b := fun k => if x27 < x26 then (if 0 ≤ x27 then (if x27 < (x25.length : Int) then ((noise_Respond.f k x154000 x154001 x1 (rd x25 x27)).bind fun bt161 => (if bt161.2 = 0 then (crowd_people.l0 k x1 x2 x25 x26 (wrap64 (x27 + 1)) x154000 x154001) else (some (0, bt161.2)))) else (none)) else (none)) else (crowd_people.l1 k (wrap64 (x154000 + (wrap64 ((wrap64 (x1 - 1)) * x154001)))) 1 (x2.length : Int) 0)) (fun k => by first | rfl | rw [crowd_people.l0]) ?_
  repeat' first
    | (with_reducible exact noise_Respond.F_is _ _ _ _)
    | (with_reducible exact crowd_people.L0_is _ _ _ _ _ _ _)
    | (with_reducible exact crowd_people.L1_is _ _ _ _)
    | (with_reducible exact LimIs.const _)
    | (with_reducible refine LimIs.ite ?_ ?_)
    | (with_reducible refine LimIs.bind ?_ (fun _ => ?_))
    | exact noise_Respond.F_is _ _ _ _
    | exact crowd_people.L0_is _ _ _ _ _ _ _
    | exact crowd_people.L1_is _ _ _ _
    | exact LimIs.const _
    | refine LimIs.ite ?_ ?_
    | refine LimIs.bind ?_ (fun _ => ?_)
set_option maxRecDepth 100000 in
theorem crowd_people.L1_eq (x12 : Int) (x13 : Int) (x51 : Int) (x52 : Int) : crowd_people.L1 x12 x13 x51 x52 = if x52 < x51 then (if (wrap64 (x13 * x12)) > 1073741824 then (some (0, 4)) else (crowd_people.L1 x12 (wrap64 (x13 * x12)) x51 (wrap64 (x52 + 1)))) else (some (x12, 0)) := by
  refine LimIs.step' (crowd_people.L1_is x12 x13 x51 x52).1 (b := fun k => if x52 < x51 then (if (wrap64 (x13 * x12)) > 1073741824 then (some (0, 4)) else (crowd_people.l1 k x12 (wrap64 (x13 * x12)) x51 (wrap64 (x52 + 1)))) else (some (x12, 0))) (fun k => by first | rfl | rw [crowd_people.l1]) ?_
  repeat' first
    | (with_reducible exact crowd_people.L1_is _ _ _ _)
    | (with_reducible exact LimIs.const _)
    | (with_reducible refine LimIs.ite ?_ ?_)
    | (with_reducible refine LimIs.bind ?_ (fun _ => ?_))
    | exact crowd_people.L1_is _ _ _ _
    | exact LimIs.const _
    | refine LimIs.ite ?_ ?_
    | refine LimIs.bind ?_ (fun _ => ?_)
set_option maxRecDepth 100000 in
theorem crowd_people.F_eq (a0_0 : Int) (a0_1 : Int) (a1 : Int) (l2 : List Int) : crowd_people.F a0_0 a0_1 a1 l2 = if a1 < 1 then (crowd_people.J0 a1 l2 true a0_0 a0_1) else (crowd_people.J0 a1 l2 (decide (a1 > 8)) a0_0 a0_1) := by
  refine LimIs.out (?_ : LimIs (fun k => if a1 < 1 then (crowd_people.j0 k a1 l2 true a0_0 a0_1) else (crowd_people.j0 k a1 l2 (decide (a1 > 8)) a0_0 a0_1)) _)
  repeat' first
    | (with_reducible exact crowd_people.J0_is _ _ _ _ _)
    | (with_reducible exact LimIs.const _)
    | (with_reducible refine LimIs.ite ?_ ?_)
    | (with_reducible refine LimIs.bind ?_ (fun _ => ?_))
    | exact crowd_people.J0_is _ _ _ _ _
    | exact LimIs.const _
    | refine LimIs.ite ?_ ?_
    | refine LimIs.bind ?_ (fun _ => ?_)
end Go.Proofs.Ytfoolbcfpedhmaa.PA
end
section
namespace Go.Proofs.Ytfoolbcfpedhmaa.PA
open Go.RowKit Go.Proofs.YtfoolbcfpedhmaaW.PrintWords Go.Proofs.YtfoolbcfpedhmaaW.PrintLast Go.Proofs.YtfoolbcfpedhmaaW.PrintMore
open Go.Proofs.YtfoolbcfpedhmaaW.EvKit
set_option linter.unusedVariables false
noncomputable def crowd_Shuffled.L0 (x1 : Int) (x10 : List (S38)) (x34 : List Int) (x35 : Int) (x36 : Int) (x166000 : Int) (x166001 : Int) : Option ((List (S38)) × Int) := lim (fun k => crowd_Shuffled.l0 k x1 x10 x34 x35 x36 x166000 x166001)
theorem crowd_Shuffled.L0_is (x1 : Int) (x10 : List (S38)) (x34 : List Int) (x35 : Int) (x36 : Int) (x166000 : Int) (x166001 : Int) : LimIs (fun k => crowd_Shuffled.l0 k x1 x10 x34 x35 x36 x166000 x166001) (crowd_Shuffled.L0 x1 x10 x34 x35 x36 x166000 x166001) := ⟨fun k => (crowd_Shuffled.mono_l k).1 x1 x10 x34 x35 x36 x166000 x166001, rfl⟩
noncomputable def crowd_Shuffled.L1 (x1 : Int) (x13 : List Int) (x14 : List (S38)) (x34 : List Int) (x35 : Int) (x36 : Int) (x50 : List (S38)) (x51 : Int) (x52 : Int) (x166000 : Int) (x166001 : Int) : Option ((List (S38)) × Int) := lim (fun k => crowd_Shuffled.l1 k x1 x13 x14 x34 x35 x36 x50 x51 x52 x166000 x166001)
theorem crowd_Shuffled.L1_is (x1 : Int) (x13 : List Int) (x14 : List (S38)) (x34 : List Int) (x35 : Int) (x36 : Int) (x50 : List (S38)) (x51 : Int) (x52 : Int) (x166000 : Int) (x166001 : Int) : LimIs (fun k => crowd_Shuffled.l1 k x1 x13 x14 x34 x35 x36 x50 x51 x52 x166000 x166001) (crowd_Shuffled.L1 x1 x13 x14 x34 x35 x36 x50 x51 x52 x166000 x166001) := ⟨fun k => (crowd_Shuffled.mono_l k).2.1 x1 x13 x14 x34 x35 x36 x50 x51 x52 x166000 x166001, rfl⟩
noncomputable def crowd_Shuffled.L2 (x1 : Int) (x13 : List Int) (x14 : List (S38)) (x34 : List Int) (x35 : Int) (x36 : Int) (x50 : List (S38)) (x51 : Int) (x52 : Int) (x57 : Int) (x58 : Int) (x166000 : Int) (x166001 : Int) (x191000 : List Int) (x191001 : Int) : Option ((List (S38)) × Int) := lim (fun k => crowd_Shuffled.l2 k x1 x13 x14 x34 x35 x36 x50 x51 x52 x57 x58 x166000 x166001 x191000 x191001)
theorem crowd_Shuffled.L2_is (x1 : Int) (x13 : List Int) (x14 : List (S38)) (x34 : List Int) (x35 : Int) (x36 : Int) (x50 : List (S38)) (x51 : Int) (x52 : Int) (x57 : Int) (x58 : Int) (x166000 : Int) (x166001 : Int) (x191000 : List Int) (x191001 : Int) : LimIs (fun k => crowd_Shuffled.l2 k x1 x13 x14 x34 x35 x36 x50 x51 x52 x57 x58 x166000 x166001 x191000 x191001) (crowd_Shuffled.L2 x1 x13 x14 x34 x35 x36 x50 x51 x52 x57 x58 x166000 x166001 x191000 x191001) := ⟨fun k => (crowd_Shuffled.mono_l k).2.2 x1 x13 x14 x34 x35 x36 x50 x51 x52 x57 x58 x166000 x166001 x191000 x191001, rfl⟩
noncomputable def crowd_Shuffled.F (a0_0 : Int) (a0_1 : Int) (a1 : Int) (l2 : List Int) : Option ((List (S38)) × Int) := lim (fun k => crowd_Shuffled.f k a0_0 a0_1 a1 l2)
theorem crowd_Shuffled.F_is (a0_0 : Int) (a0_1 : Int) (a1 : Int) (l2 : List Int) : LimIs (fun k => crowd_Shuffled.f k a0_0 a0_1 a1 l2) (crowd_Shuffled.F a0_0 a0_1 a1 l2) := ⟨fun k => crowd_Shuffled.mono a0_0 a0_1 a1 l2 k, rfl⟩
set_option maxRecDepth 100000 in
theorem crowd_Shuffled.L0_eq (x1 : Int) (x10 : List (S38)) (x34 : List Int) (x35 : Int) (x36 : Int) (x166000 : Int) (x166001 : Int) : crowd_Shuffled.L0 x1 x10 x34 x35 x36 x166000 x166001 = if x36 < x35 then (if 0 ≤ x36 then (if x36 < (x34.length : Int) then ((slices_Repeat_int_int.f (([x166001] : List Int)) x1).bind fun t182 => (if 0 ≤ (rd x34 x36) then (if (rd x34 x36) < (t182.length : Int) then (crowd_Shuffled.L1 x1 (t182.set ((rd x34 x36) : Int).toNat x166000) ([] : List (S38)) x34 x35 x36 x10 (x10.length : Int) 0 x166000 x166001) else (none)) else (none))) else (none)) else (none)) else ((dist_Make.F x10).bind fun bt174 => (some (bt174.1, bt174.2))) := by
  refine LimIs.step' (crowd_Shuffled.L0_is x1 x10 x34 x35 x36 x166000 x166001).1 (b := fun k => if x36 < x35 then (if 0 ≤ x36 then (if x36 < (x34.length : Int) then ((slices_Repeat_int_int.f (([x166001] : List Int)) x1).bind fun t182 => (if 0 ≤ (rd x34 x36) then (if (rd x34 x36) < (t182.length : Int) then (crowd_Shuffled.l1 k x1 (t182.set ((rd x34 x36) : Int).toNat x166000) ([] : List (S38)) x34 x35 x36 x10 (x10.length : Int) 0 x166000 x166001) else (none)) else (none))) else (none)) else (none)) else ((dist_Make.f k x10).bind fun bt174 => (some (bt174.1, bt174.2)))) (fun k => by first | rfl | rw [crowd_Shuffled.l0]) ?_
  repeat' first
    | (with_reducible exact crowd_Shuffled.L1_is _ _ _ _ _ _ _ _ _ _ _)
    | (with_reducible exact dist_Make.F_is _)
    | (with_reducible exact LimIs.const _)
    | (with_reducible refine LimIs.ite ?_ ?_)
    | (with_reducible refine LimIs.bind ?_ (fun _ => ?_))
    | exact crowd_Shuffled.L1_is _ _ _ _ _ _ _ _ _ _ _
    | exact dist_Make.F_is _
    | exact LimIs.const _
    | refine LimIs.ite ?_ ?_
    | refine LimIs.bind ?_ (fun _ => ?_)
set_option maxRecDepth 100000 in
theorem crowd_Shuffled.L1_eq (x1 : Int) (x13 : List Int) (x14 : List (S38)) (x34 : List Int) (x35 : Int) (x36 : Int) (x50 : List (S38)) (x51 : Int) (x52 : Int) (x166000 : Int) (x166001 : Int) : crowd_Shuffled.L1 x1 x13 x14 x34 x35 x36 x50 x51 x52 x166000 x166001 = if x52 < x51 then (if 0 ≤ x52 then (if x52 < (x50.length : Int) then (crowd_Shuffled.L2 x1 x13 x14 x34 x35 x36 x50 x51 x52 (x13.length : Int) 0 x166000 x166001 ((rd_T38 x50 x52).f0) ((rd_T38 x50 x52).f1)) else (none)) else (none)) else ((crowd_gathered.F x14).bind fun t186 => (crowd_Shuffled.L0 x1 t186 x34 x35 (wrap64 (x36 + 1)) x166000 x166001)) := by
  refine LimIs.step' (crowd_Shuffled.L1_is x1 x13 x14 x34 x35 x36 x50 x51 x52 x166000 x166001).1 (b := fun k => if x52 < x51 then (if 0 ≤ x52 then (if x52 < (x50.length : Int) then (crowd_Shuffled.l2 k x1 x13 x14 x34 x35 x36 x50 x51 x52 (x13.length : Int) 0 x166000 x166001 ((rd_T38 x50 x52).f0) ((rd_T38 x50 x52).f1)) else (none)) else (none)) else ((crowd_gathered.f k x14).bind fun t186 => (crowd_Shuffled.l0 k x1 t186 x34 x35 (wrap64 (x36 + 1)) x166000 x166001))) (fun k => by first | rfl | rw [crowd_Shuffled.l1]) ?_
  repeat' first
    | (with_reducible exact crowd_Shuffled.L2_is _ _ _ _ _ _ _ _ _ _ _ _ _ _ _)
    | (with_reducible exact crowd_gathered.F_is _)
    | (with_reducible exact crowd_Shuffled.L0_is _ _ _ _ _ _ _)
    | (with_reducible exact LimIs.const _)
    | (with_reducible refine LimIs.ite ?_ ?_)
    | (with_reducible refine LimIs.bind ?_ (fun _ => ?_))
    | exact crowd_Shuffled.L2_is _ _ _ _ _ _ _ _ _ _ _ _ _ _ _
    | exact crowd_gathered.F_is _
    | exact crowd_Shuffled.L0_is _ _ _ _ _ _ _
    | exact LimIs.const _
    | refine LimIs.ite ?_ ?_
    | refine LimIs.bind ?_ (fun _ => ?_)
set_option maxRecDepth 100000 in
theorem crowd_Shuffled.L2_eq (x1 : Int) (x13 : List Int) (x14 : List (S38)) (x34 : List Int) (x35 : Int) (x36 : Int) (x50 : List (S38)) (x51 : Int) (x52 : Int) (x57 : Int) (x58 : Int) (x166000 : Int) (x166001 : Int) (x191000 : List Int) (x191001 : Int) : crowd_Shuffled.L2 x1 x13 x14 x34 x35 x36 x50 x51 x52 x57 x58 x166000 x166001 x191000 x191001 = if x58 < x57 then (if 0 ≤ x58 then (if x58 < (x13.length : Int) then ((slices_Clone_int_int.f x191000).bind fun t192 => (if x58 < (t192.length : Int) then (if x14.length < 4398046511104 then (crowd_Shuffled.L2 x1 x13 (x14 ++ [(⟨(t192.set (x58 : Int).toNat (wrap64 ((rd t192 x58) + 1))), wrap64 (x191001 * (rd x13 x58))⟩ : S38)]) x34 x35 x36 x50 x51 x52 x57 (wrap64 (x58 + 1)) x166000 x166001 x191000 x191001) else (none)) else (none))) else (none)) else (none)) else (crowd_Shuffled.L1 x1 x13 x14 x34 x35 x36 x50 x51 (wrap64 (x52 + 1)) x166000 x166001) := by
  refine LimIs.step' (crowd_Shuffled.L2_is x1 x13 x14 x34 x35 x36 x50 x51 x52 x57 x58 x166000 x166001 x191000 x191001).1 (b := fun k => if x58 < x57 then (if 0 ≤ x58 then (if x58 < (x13.length : Int) then ((slices_Clone_int_int.f x191000).bind fun t192 => (if x58 < (t192.length : Int) then (if x14.length < 4398046511104 then (crowd_Shuffled.l2 k x1 x13 (x14 ++ [(⟨(t192.set (x58 : Int).toNat (wrap64 ((rd t192 x58) + 1))), wrap64 (x191001 * (rd x13 x58))⟩ : S38)]) x34 x35 x36 x50 x51 x52 x57 (wrap64 (x58 + 1)) x166000 x166001 x191000 x191001) else (none)) else (none))) else (none)) else (none)) else (crowd_Shuffled.l1 k x1 x13 x14 x34 x35 x36 x50 x51 (wrap64 (x52 + 1)) x166000 x166001)) (fun k => by first | rfl | rw [crowd_Shuffled.l2]) ?_
  repeat' first
    | (with_reducible exact crowd_Shuffled.L2_is _ _ _ _ _ _ _ _ _ _ _ _ _ _ _)
    | (with_reducible exact crowd_Shuffled.L1_is _ _ _ _ _ _ _ _ _ _ _)
    | (with_reducible exact LimIs.const _)
    | (with_reducible refine LimIs.ite ?_ ?_)
    | (with_reducible refine LimIs.bind ?_ (fun _ => ?_))
    | exact crowd_Shuffled.L2_is _ _ _ _ _ _ _ _ _ _ _ _ _ _ _
    | exact crowd_Shuffled.L1_is _ _ _ _ _ _ _ _ _ _ _
    | exact LimIs.const _
    | refine LimIs.ite ?_ ?_
    | refine LimIs.bind ?_ (fun _ => ?_)
set_option maxRecDepth 100000 in
theorem crowd_Shuffled.F_eq (a0_0 : Int) (a0_1 : Int) (a1 : Int) (l2 : List Int) : crowd_Shuffled.F a0_0 a0_1 a1 l2 = (crowd_people.F a0_0 a0_1 a1 l2).bind fun bt166 => (if bt166.2 = 0 then (if 0 ≤ a1 then (if (a1 : Int).toNat ≤ 35184372088832 then (crowd_Shuffled.L0 a1 (([(⟨(List.replicate (a1 : Int).toNat 0), 1⟩ : S38)] : List (S38))) l2 (l2.length : Int) 0 a0_0 a0_1) else (none)) else (none)) else (some (([] : List (S38)), bt166.2))) := by
  refine LimIs.out (?_ : LimIs (fun k => (crowd_people.f k a0_0 a0_1 a1 l2).bind fun bt166 => (if bt166.2 = 0 then (if 0 ≤ a1 then (if (a1 : Int).toNat ≤ 35184372088832 then (crowd_Shuffled.l0 k a1 (([(⟨(List.replicate (a1 : Int).toNat 0), 1⟩ : S38)] : List (S38))) l2 (l2.length : Int) 0 a0_0 a0_1) else (none)) else (none)) else (some (([] : List (S38)), bt166.2)))) _)
  repeat' first
    | (with_reducible exact crowd_people.F_is _ _ _ _)
    | (with_reducible exact crowd_Shuffled.L0_is _ _ _ _ _ _ _)
    | (with_reducible exact LimIs.const _)
    | (with_reducible refine LimIs.ite ?_ ?_)
    | (with_reducible refine LimIs.bind ?_ (fun _ => ?_))
    | exact crowd_people.F_is _ _ _ _
    | exact crowd_Shuffled.L0_is _ _ _ _ _ _ _
    | exact LimIs.const _
    | refine LimIs.ite ?_ ?_
    | refine LimIs.bind ?_ (fun _ => ?_)
end Go.Proofs.Ytfoolbcfpedhmaa.PA
end
section
namespace Go.Proofs.Ytfoolbcfpedhmaa.PA
open Go.RowKit Go.Proofs.YtfoolbcfpedhmaaW.PrintWords Go.Proofs.YtfoolbcfpedhmaaW.PrintLast Go.Proofs.YtfoolbcfpedhmaaW.PrintMore
open Go.Proofs.YtfoolbcfpedhmaaW.EvKit
set_option linter.unusedVariables false
noncomputable def api_Part.L0 (x1 : List (S38)) (x15 : List (S38)) (x16 : Int) (x17 : Int) : Option (Bool) := lim (fun k => api_Part.l0 k x1 x15 x16 x17)
theorem api_Part.L0_is (x1 : List (S38)) (x15 : List (S38)) (x16 : Int) (x17 : Int) : LimIs (fun k => api_Part.l0 k x1 x15 x16 x17) (api_Part.L0 x1 x15 x16 x17) := ⟨fun k => (api_Part.mono_l k) x1 x15 x16 x17, rfl⟩
noncomputable def hushlaw13_alive.F : Option (Bool) := lim (fun k => hushlaw13_alive.f k)
theorem hushlaw13_alive.F_is : LimIs (fun k => hushlaw13_alive.f k) (hushlaw13_alive.F) := ⟨fun k => hushlaw13_alive.mono k, rfl⟩
noncomputable def dist_same_1.F (l0_0 : List Int) (a0_1 : Int) (l1_0 : List Int) (a1_1 : Int) : Option (Bool) := lim (fun k => dist_same_1.f k l0_0 a0_1 l1_0 a1_1)
theorem dist_same_1.F_is (l0_0 : List Int) (a0_1 : Int) (l1_0 : List Int) (a1_1 : Int) : LimIs (fun k => dist_same_1.f k l0_0 a0_1 l1_0 a1_1) (dist_same_1.F l0_0 a0_1 l1_0 a1_1) := ⟨fun k => dist_same_1.mono l0_0 a0_1 l1_0 a1_1 k, rfl⟩
noncomputable def api_Part.F (l0 : List (S38)) (l1 : List (S38)) (a2 : Int) : Option (Bool) := lim (fun k => api_Part.f k l0 l1 a2)
theorem api_Part.F_is (l0 : List (S38)) (l1 : List (S38)) (a2 : Int) : LimIs (fun k => api_Part.f k l0 l1 a2) (api_Part.F l0 l1 a2) := ⟨fun k => api_Part.mono l0 l1 a2 k, rfl⟩
noncomputable def dist_same.F (l0 : List (S38)) (l1 : List (S38)) : Option (Bool) := lim (fun k => dist_same.f k l0 l1)
theorem dist_same.F_is (l0 : List (S38)) (l1 : List (S38)) : LimIs (fun k => dist_same.f k l0 l1) (dist_same.F l0 l1) := ⟨fun k => dist_same.mono l0 l1 k, rfl⟩
noncomputable def dist_Wrong.F (l0 : List (S38)) : Option (Int) := lim (fun k => dist_Wrong.f k l0)
theorem dist_Wrong.F_is (l0 : List (S38)) : LimIs (fun k => dist_Wrong.f k l0) (dist_Wrong.F l0) := ⟨fun k => dist_Wrong.mono l0 k, rfl⟩
set_option maxRecDepth 100000 in
theorem api_Part.L0_eq (x1 : List (S38)) (x15 : List (S38)) (x16 : Int) (x17 : Int) : api_Part.L0 x1 x15 x16 x17 = if x17 < x16 then (if 0 ≤ x17 then (if x17 < (x15.length : Int) then (if x17 < (x1.length : Int) then ((dist_same_1.F ((rd_T38 x15 x17).f0) ((rd_T38 x15 x17).f1) ((rd_T38 x1 x17).f0) ((rd_T38 x1 x17).f1)).bind fun t214 => (if t214 = true then (api_Part.L0 x1 x15 x16 (wrap64 (x17 + 1))) else (some false))) else (none)) else (none)) else (none)) else (some true) := by
  refine LimIs.step' (api_Part.L0_is x1 x15 x16 x17).1 (b := fun k => if x17 < x16 then (if 0 ≤ x17 then (if x17 < (x15.length : Int) then (if x17 < (x1.length : Int) then ((dist_same_1.f k ((rd_T38 x15 x17).f0) ((rd_T38 x15 x17).f1) ((rd_T38 x1 x17).f0) ((rd_T38 x1 x17).f1)).bind fun t214 => (if t214 = true then (api_Part.l0 k x1 x15 x16 (wrap64 (x17 + 1))) else (some false))) else (none)) else (none)) else (none)) else (some true)) (fun k => by first | rfl | rw [api_Part.l0]) ?_
  repeat' first
    | (with_reducible exact dist_same_1.F_is _ _ _ _)
    | (with_reducible exact api_Part.L0_is _ _ _ _)
    | (with_reducible exact LimIs.const _)
    | (with_reducible refine LimIs.ite ?_ ?_)
    | (with_reducible refine LimIs.bind ?_ (fun _ => ?_))
    | exact dist_same_1.F_is _ _ _ _
    | exact api_Part.L0_is _ _ _ _
    | exact LimIs.const _
    | refine LimIs.ite ?_ ?_
    | refine LimIs.bind ?_ (fun _ => ?_)
set_option maxRecDepth 100000 in
theorem hushlaw13_alive.F_eq : hushlaw13_alive.F = (crowd_Shuffled.F 2 1 2 (([0] : List Int))).bind fun bt203 => (if bt203.2 = 0 then (some ((bt203.1.length : Int) == 2)) else (some false)) := by
  refine LimIs.out (?_ : LimIs (fun k => (crowd_Shuffled.f k 2 1 2 (([0] : List Int))).bind fun bt203 => (if bt203.2 = 0 then (some ((bt203.1.length : Int) == 2)) else (some false))) _)
  repeat' first
    | (with_reducible exact crowd_Shuffled.F_is _ _ _ _)
    | (with_reducible exact LimIs.const _)
    | (with_reducible refine LimIs.ite ?_ ?_)
    | (with_reducible refine LimIs.bind ?_ (fun _ => ?_))
    | exact crowd_Shuffled.F_is _ _ _ _
    | exact LimIs.const _
    | refine LimIs.ite ?_ ?_
    | refine LimIs.bind ?_ (fun _ => ?_)
set_option maxRecDepth 100000 in
theorem dist_same_1.F_eq (l0_0 : List Int) (a0_1 : Int) (l1_0 : List Int) (a1_1 : Int) : dist_same_1.F l0_0 a0_1 l1_0 a1_1 = if a0_1 = a1_1 then ((slices_Equal_int_int.F l0_0 l1_0).bind fun t209 => (some t209)) else (some false) := by
  refine LimIs.out (?_ : LimIs (fun k => if a0_1 = a1_1 then ((slices_Equal_int_int.f k l0_0 l1_0).bind fun t209 => (some t209)) else (some false)) _)
  repeat' first
    | (with_reducible exact slices_Equal_int_int.F_is _ _)
    | (with_reducible exact LimIs.const _)
    | (with_reducible refine LimIs.ite ?_ ?_)
    | (with_reducible refine LimIs.bind ?_ (fun _ => ?_))
    | exact slices_Equal_int_int.F_is _ _
    | exact LimIs.const _
    | refine LimIs.ite ?_ ?_
    | refine LimIs.bind ?_ (fun _ => ?_)
set_option maxRecDepth 100000 in
theorem api_Part.F_eq (l0 : List (S38)) (l1 : List (S38)) (a2 : Int) : api_Part.F l0 l1 a2 = if (l0.length : Int) = (l1.length : Int) then (api_Part.L0 l1 l0 (l0.length : Int) 0) else (some false) := by
  refine LimIs.out (?_ : LimIs (fun k => if (l0.length : Int) = (l1.length : Int) then (api_Part.l0 k l1 l0 (l0.length : Int) 0) else (some false)) _)
  repeat' first
    | (with_reducible exact api_Part.L0_is _ _ _ _)
    | (with_reducible exact LimIs.const _)
    | (with_reducible refine LimIs.ite ?_ ?_)
    | (with_reducible refine LimIs.bind ?_ (fun _ => ?_))
    | exact api_Part.L0_is _ _ _ _
    | exact LimIs.const _
    | refine LimIs.ite ?_ ?_
    | refine LimIs.bind ?_ (fun _ => ?_)
set_option maxRecDepth 100000 in
theorem dist_same.F_eq (l0 : List (S38)) (l1 : List (S38)) : dist_same.F l0 l1 = (api_Part.F l0 l1 990000067).bind fun t215 => (some t215) := by
  refine LimIs.out (?_ : LimIs (fun k => (api_Part.f k l0 l1 990000067).bind fun t215 => (some t215)) _)
  repeat' first
    | (with_reducible exact api_Part.F_is _ _ _)
    | (with_reducible exact LimIs.const _)
    | (with_reducible refine LimIs.ite ?_ ?_)
    | (with_reducible refine LimIs.bind ?_ (fun _ => ?_))
    | exact api_Part.F_is _ _ _
    | exact LimIs.const _
    | refine LimIs.ite ?_ ?_
    | refine LimIs.bind ?_ (fun _ => ?_)
set_option maxRecDepth 100000 in
theorem dist_Wrong.F_eq (l0 : List (S38)) : dist_Wrong.F l0 = (dist_Make.F l0).bind fun bt216 => (if bt216.2 = 0 then ((dist_same.F l0 bt216.1).bind fun t220 => (if t220 = true then (some bt216.2) else (some (2 : Int)))) else (some bt216.2)) := by
  refine LimIs.out (?_ : LimIs (fun k => (dist_Make.f k l0).bind fun bt216 => (if bt216.2 = 0 then ((dist_same.f k l0 bt216.1).bind fun t220 => (if t220 = true then (some bt216.2) else (some (2 : Int)))) else (some bt216.2))) _)
  repeat' first
    | (with_reducible exact dist_Make.F_is _)
    | (with_reducible exact dist_same.F_is _ _)
    | (with_reducible exact LimIs.const _)
    | (with_reducible refine LimIs.ite ?_ ?_)
    | (with_reducible refine LimIs.bind ?_ (fun _ => ?_))
    | exact dist_Make.F_is _
    | exact dist_same.F_is _ _
    | exact LimIs.const _
    | refine LimIs.ite ?_ ?_
    | refine LimIs.bind ?_ (fun _ => ?_)
end Go.Proofs.Ytfoolbcfpedhmaa.PA
end
section
namespace Go.Proofs.Ytfoolbcfpedhmaa.PA
open Go.RowKit Go.Proofs.YtfoolbcfpedhmaaW.PrintWords Go.Proofs.YtfoolbcfpedhmaaW.PrintLast Go.Proofs.YtfoolbcfpedhmaaW.PrintMore
open Go.Proofs.YtfoolbcfpedhmaaW.EvKit
set_option linter.unusedVariables false
noncomputable def hushref2_Total.L0 (x3 : Int) (x6 : List (S38)) (x7 : Int) (x8 : Int) : Option (Int) := lim (fun k => hushref2_Total.l0 k x3 x6 x7 x8)
theorem hushref2_Total.L0_is (x3 : Int) (x6 : List (S38)) (x7 : Int) (x8 : Int) : LimIs (fun k => hushref2_Total.l0 k x3 x6 x7 x8) (hushref2_Total.L0 x3 x6 x7 x8) := ⟨fun k => (hushref2_Total.mono_l k) x3 x6 x7 x8, rfl⟩
noncomputable def hushref2_Total.F (l0 : List (S38)) : Option (Int) := lim (fun k => hushref2_Total.f k l0)
theorem hushref2_Total.F_is (l0 : List (S38)) : LimIs (fun k => hushref2_Total.f k l0) (hushref2_Total.F l0) := ⟨fun k => hushref2_Total.mono l0 k, rfl⟩
set_option maxRecDepth 100000 in
theorem hushref2_Total.L0_eq (x3 : Int) (x6 : List (S38)) (x7 : Int) (x8 : Int) : hushref2_Total.L0 x3 x6 x7 x8 = if x8 < x7 then (if 0 ≤ x8 then (if x8 < (x6.length : Int) then (hushref2_Total.L0 (wrap64 (x3 + ((rd_T38 x6 x8).f1))) x6 x7 (wrap64 (x8 + 1))) else (none)) else (none)) else (some x3) := by
  refine LimIs.step' (hushref2_Total.L0_is x3 x6 x7 x8).1 (b := fun k => if x8 < x7 then (if 0 ≤ x8 then (if x8 < (x6.length : Int) then (hushref2_Total.l0 k (wrap64 (x3 + ((rd_T38 x6 x8).f1))) x6 x7 (wrap64 (x8 + 1))) else (none)) else (none)) else (some x3)) (fun k => by first | rfl | rw [hushref2_Total.l0]) ?_
  repeat' first
    | (with_reducible exact hushref2_Total.L0_is _ _ _ _)
    | (with_reducible exact LimIs.const _)
    | (with_reducible refine LimIs.ite ?_ ?_)
    | (with_reducible refine LimIs.bind ?_ (fun _ => ?_))
    | exact hushref2_Total.L0_is _ _ _ _
    | exact LimIs.const _
    | refine LimIs.ite ?_ ?_
    | refine LimIs.bind ?_ (fun _ => ?_)
set_option maxRecDepth 100000 in
theorem hushref2_Total.F_eq (l0 : List (S38)) : hushref2_Total.F l0 = hushref2_Total.L0 0 l0 (l0.length : Int) 0 := by
  refine LimIs.out (?_ : LimIs (fun k => hushref2_Total.l0 k 0 l0 (l0.length : Int) 0) _)
  repeat' first
    | (with_reducible exact hushref2_Total.L0_is _ _ _ _)
    | (with_reducible exact LimIs.const _)
    | (with_reducible refine LimIs.ite ?_ ?_)
    | (with_reducible refine LimIs.bind ?_ (fun _ => ?_))
    | exact hushref2_Total.L0_is _ _ _ _
    | exact LimIs.const _
    | refine LimIs.ite ?_ ?_
    | refine LimIs.bind ?_ (fun _ => ?_)
end Go.Proofs.Ytfoolbcfpedhmaa.PA
end
section
namespace Go.Proofs.Ytfoolbcfpedhmaa.DistPure
set_option linter.unusedVariables false
set_option linter.unusedSimpArgs false
open Go.RowKit Go.Proofs.Ytfoolbcfpedhmaa.PA Go.Proofs.YtfoolbcfpedhmaaW.PrintWords Go.Proofs.YtfoolbcfpedhmaaW.PrintLast Go.Proofs.YtfoolbcfpedhmaaW.PrintMore Go.Proofs.YtfoolbcfpedhmaaW.EvKit
theorem rdAt {xs : List Int} {i : Nat} (h : i < xs.length) : rd xs (i : Int) = xs[i] := by
  rw [rd_nat, List.getD_eq_getElem?_getD, List.getElem?_eq_getElem h]; rfl
theorem rd32At {xs : List S38} {i : Nat} (h : i < xs.length) : rd_T38 xs (i : Int) = xs[i] := by
  unfold rd_T38
  rw [Int.toNat_natCast, List.getD_eq_getElem?_getD, List.getElem?_eq_getElem h]; rfl
theorem w1 {i : Nat} (h : i < 4611686018427387904) : wrap64 ((i : Int) + 1) = ((i + 1 : Nat) : Int) := by rw [wrap64_of (by omega) (by omega)]; rfl
theorem eqF (x y : List Int) (hx : x.length ≤ 1048576) : slices_Equal_int_int.F x y = some (decide (x = y)) :=
  ((slices_Equal_int_int.F_is x y).iff _).2 (eq_is x y (by omega))
def okN (n : Int) : Bool := decide (-1073741824 ≤ n) && decide (n ≤ 1073741824)
def smallB (o : List Int) : Bool := decide (o.length ≤ 16) && o.all okN
theorem small1 (n : Int) : dist_small_1.f n = some (!okN n) := by
  unfold dist_small_1.f okN
  by_cases h : n < -1073741824
  · rw [if_pos h]; congr 1; symm; simp; omega
  · rw [if_neg h]; congr 1; rw [Bool.eq_iff_iff]; simp; omega
theorem index_loop (x : List Int) (hx : x.length ≤ 1048576) : ∀ (n i : Nat), i + n = x.length →
    ∃ r, slices_IndexFunc_int_int.L0 x (x.length : Int) (i : Int) = some r ∧ decide (r ≥ 0) = !((x.drop i).all okN) := by
  intro n
  induction n with
  | zero =>
    intro i hi
    refine ⟨-1, ?_, ?_⟩
    · rw [slices_IndexFunc_int_int.L0_eq, if_neg (by omega)]
    · rw [List.drop_of_length_le (show x.length ≤ i by omega)]; rfl
  | succ n ih =>
    intro i hi
    have hxi : i < x.length := by omega
    rw [slices_IndexFunc_int_int.L0_eq, if_pos (by omega), if_pos (by omega), if_pos (by omega), rdAt hxi, small1, Option.bind_some, List.drop_eq_getElem_cons hxi, List.all_cons]
    cases h : okN x[i] with
    | false => exact ⟨i, if_pos rfl, by simp⟩
    | true =>
      obtain ⟨r, h1, h2⟩ := ih (i + 1) (by omega)
      refine ⟨r, ?_, by rw [h2]; rfl⟩
      rw [if_neg (by decide), w1 (by omega)]
      exact h1
theorem smallF (o : List Int) (h : o.length ≤ 1048576) : dist_small.F o = some (smallB o) := by
  rw [dist_small.F_eq]
  unfold smallB
  by_cases c : o.length ≤ 16
  · obtain ⟨r, h1, h2⟩ := index_loop o h o.length 0 (by omega)
    rw [if_pos (by omega), slices_ContainsFunc_int_int.F_eq, slices_IndexFunc_int_int.F_eq]
    rw [show (0 : Int) = ((0 : Nat) : Int) from rfl, h1]
    rw [Option.bind_some, Option.bind_some]
    have h2 : decide (r ≥ ((0 : Nat) : Int)) = !((o.drop 0).all okN) := h2
    rw [h2, List.drop_zero, decide_eq_true c]
    simp
  · rw [if_neg (by omega), decide_eq_false c]; rfl
theorem totOf_cons (p : S38) (l : List S38) : totOf (p :: l) = p.f1 + totOf l := rfl
theorem totOf_nil : totOf [] = 0 := rfl
theorem wOf_le : ∀ {l : List S38}, (∀ p ∈ l, 0 ≤ p.f1) → ∀ o, 0 ≤ wOf l o ∧ wOf l o ≤ totOf l
  | [], _, _ => ⟨Int.le_refl _, Int.le_refl _⟩
  | p :: l, h, o => by
    have := wOf_le (l := l) (fun q hq => h q (by simp [hq])) o
    have := h p (by simp)
    rw [totOf_cons, wOf_cons]
    split <;> omega
theorem tot_bd : ∀ {l : List S38}, (∀ p ∈ l, 0 ≤ p.f1 ∧ p.f1 ≤ 1073741824) → totOf l ≤ 1073741824 * (l.length : Int)
  | [], _ => Int.le_refl _
  | p :: l, h => by
    have := tot_bd (l := l) (fun q hq => h q (by simp [hq]))
    have := h p (by simp)
    rw [totOf_cons, List.length_cons]; omega
theorem totF (l : List S38) (hl : l.length ≤ 1048576) (h0 : ∀ p ∈ l, 0 ≤ p.f1) (ht : totOf l ≤ 4611686018427387904) : dist_total.F l = some (totOf l) :=
  ((dist_total.F_is l).iff _).2 (total_is l (by omega) h0 ht)
theorem mem_at {l : List S38} {i : Nat} (h : i < l.length) : l[i] ∈ l := List.getElem_mem h
end Go.Proofs.Ytfoolbcfpedhmaa.DistPure
end
section
namespace Go.Proofs.Ytfoolbcfpedhmaa.DistPure
set_option linter.unusedVariables false
set_option linter.unusedSimpArgs false
open Go.RowKit Go.Proofs.Ytfoolbcfpedhmaa.PA Go.Proofs.YtfoolbcfpedhmaaW.PrintWords Go.Proofs.YtfoolbcfpedhmaaW.PrintLast Go.Proofs.YtfoolbcfpedhmaaW.PrintMore Go.Proofs.YtfoolbcfpedhmaaW.EvKit
end Go.Proofs.Ytfoolbcfpedhmaa.DistPure
end
section
namespace Go.Proofs.Ytfoolbcfpedhmaa.DistPure
set_option linter.unusedVariables false
set_option linter.unusedSimpArgs false
open Go.RowKit Go.Proofs.Ytfoolbcfpedhmaa.PA Go.Proofs.YtfoolbcfpedhmaaW.PrintWords Go.Proofs.YtfoolbcfpedhmaaW.PrintLast Go.Proofs.YtfoolbcfpedhmaaW.PrintMore Go.Proofs.YtfoolbcfpedhmaaW.EvKit
def Outs (l : List S38) (x : List Int) : Prop := ∃ p ∈ l, p.f0 = x ∧ 0 < p.f1
theorem wOf_ge : ∀ {l : List S38}, (∀ p ∈ l, 0 ≤ p.f1) → ∀ {p : S38}, p ∈ l → p.f1 ≤ wOf l p.f0
  | [], _, p, h => by cases h
  | q :: l, h0, p, h => by
    have h1 := h0 q (by simp)
    have h2 : ∀ p ∈ l, 0 ≤ p.f1 := fun x hx => h0 x (by simp [hx])
    rw [wOf_cons]
    rcases List.mem_cons.1 h with e | e
    · subst e
      rw [if_pos rfl]
      have := (wOf_le h2 p.f0).1
      omega
    · have := wOf_ge h2 e
      split <;> omega
theorem wOf_some : ∀ {l : List S38}, (∀ p ∈ l, 0 ≤ p.f1) → ∀ {o : List Int}, 0 < wOf l o → Outs l o
  | [], _, _, h => absurd h (Int.lt_irrefl 0)
  | q :: l, h0, o, h => by
    have h1 := h0 q (by simp)
    rw [wOf_cons] at h
    by_cases c : q.f0 = o ∧ 0 < q.f1
    · exact ⟨q, by simp, c⟩
    · have h2 : 0 < wOf l o := by
        by_cases e : q.f0 = o
        · rw [if_pos e] at h
          have : ¬ 0 < q.f1 := fun x => c ⟨e, x⟩
          omega
        · rw [if_neg e] at h; omega
      obtain ⟨p, hp, e⟩ := wOf_some (fun x hx => h0 x (by simp [hx])) h2
      exact ⟨p, by simp [hp], e⟩
theorem outs_iff {l D : List S38} (h : Canon l D) (h0 : ∀ p ∈ l, 0 ≤ p.f1) (x : List Int) : Outs l x ↔ ∃ q ∈ D, q.f0 = x := by
  have d0 : ∀ p ∈ D, 0 ≤ p.f1 := fun p hp => Int.le_of_lt (h.pos p hp)
  constructor
  · rintro ⟨p, hp, e, hpos⟩
    have := wOf_ge h0 hp
    rw [e, ← h.w] at this
    exact wOf_mem (by omega)
  · rintro ⟨q, hq, e⟩
    have := wOf_ge d0 hq
    have := h.pos q hq
    subst e
    exact wOf_some h0 (by rw [← h.w]; omega)
def Least (S : List Int → Prop) (o : List Int) (f : Bool) : Prop := (f = true → S o ∧ ∀ x, S x → cmpL o x ≤ 0) ∧ (f = false → ∀ x, ¬ S x)
theorem Least.new {S S' : List Int → Prop} {o v : List Int} (h : Least S o false) (hS : ∀ x, S' x ↔ S x ∨ x = v) : Least S' v true :=
  ⟨fun _ => ⟨(hS v).2 (.inr rfl), fun x hx => by
    rcases (hS x).1 hx with h1 | h1
    · exact absurd h1 (h.2 rfl x)
    · rw [h1, cmpL_self]; exact Int.le_refl 0⟩, fun c => by cases c⟩
theorem Least.lt {S S' : List Int → Prop} {o v : List Int} (h : Least S o true) (c : cmpL v o < 0) (hS : ∀ x, S' x ↔ S x ∨ x = v) : Least S' v true :=
  ⟨fun _ => ⟨(hS v).2 (.inr rfl), fun x hx => by
    rcases (hS x).1 hx with h1 | h1
    · exact cmpL_le_trans _ _ _ (Int.le_of_lt c) ((h.1 rfl).2 x h1)
    · rw [h1, cmpL_self]; exact Int.le_refl 0⟩, fun c => by cases c⟩
theorem Least.same {S S' : List Int → Prop} {o : List Int} {f : Bool} (h : Least S o f) (hS : ∀ x, S' x ↔ S x) : Least S' o f :=
  ⟨fun c => ⟨(hS o).2 (h.1 c).1, fun x hx => (h.1 c).2 x ((hS x).1 hx)⟩, fun c x hx => h.2 c x ((hS x).1 hx)⟩
theorem take_one {l : List S38} {i : Nat} (h : i < l.length) : l.take (i + 1) = l.take i ++ [l[i]] := by
  rw [List.take_add_one, List.getElem?_eq_getElem h]; rfl
theorem one_le {l : List S38} (h0 : ∀ p ∈ l, 0 ≤ p.f1) {p : S38} (h : p ∈ l) : p.f1 ≤ totOf l := by
  have h1 := wOf_ge h0 h
  have h2 := (wOf_le h0 p.f0).2
  omega
theorem tStep_len (d : List S38) (p : S38) : (tStep d p).length ≤ d.length + 1 := by
  unfold tStep
  split
  · omega
  · split
    · split
      · rw [List.length_append, List.length_dropLast, List.length_singleton]; omega
      · rw [List.length_append, List.length_singleton]; omega
    · rw [List.length_append, List.length_singleton]; omega
theorem tFold_len : ∀ (l d : List S38), (l.foldl tStep d).length ≤ d.length + l.length
  | [], d => by simp
  | p :: l, d => by
    have := tFold_len l (tStep d p)
    have := tStep_len d p
    rw [List.foldl_cons, List.length_cons]; omega
theorem tMerge_len (l : List S38) : (tMerge (sortP l)).length ≤ l.length := by
  have := tFold_len (sortP l) []
  rw [(sortP_perm l).length_eq, List.length_nil] at this
  unfold tMerge
  omega
theorem totOf_app : ∀ (a b : List S38), totOf (a ++ b) = totOf a + totOf b
  | [], b => by rw [totOf_nil]; exact (Int.zero_add _).symm
  | p :: a, b => by rw [List.cons_append, totOf_cons, totOf_cons, totOf_app a b]; omega
theorem totOf_perm {a b : List S38} (h : a.Perm b) : totOf a = totOf b := isum_perm (h.map _)
theorem tStep_tot (d : List S38) (p : S38) : totOf (tStep d p) = totOf d + p.f1 := by
  unfold tStep
  split
  · omega
  · split
    · rename_i q hq
      obtain ⟨d0, e⟩ : ∃ d0, d = d0 ++ [q] := List.getLast?_eq_some_iff.1 hq
      subst e
      split
      · rw [List.dropLast_concat, totOf_app, totOf_app, totOf_cons, totOf_cons, totOf_nil]
        show _ + (q.f1 + p.f1 + 0) = _
        omega
      · rw [totOf_app _ [p], totOf_cons p, totOf_nil]; omega
    · rw [totOf_app, totOf_cons, totOf_nil]; omega
theorem tFold_tot : ∀ (l d : List S38), totOf (l.foldl tStep d) = totOf d + totOf l
  | [], d => by rw [totOf_nil]; exact (Int.add_zero _).symm
  | p :: l, d => by rw [List.foldl_cons, tFold_tot, tStep_tot, totOf_cons]; omega
theorem tMerge_tot (l : List S38) : totOf (tMerge (sortP l)) = totOf l := by
  unfold tMerge
  rw [tFold_tot, totOf_perm (sortP_perm l), totOf_nil]; omega
end Go.Proofs.Ytfoolbcfpedhmaa.DistPure
end
section
namespace Go.Proofs.Ytfoolbcfpedhmaa.DistPure
set_option linter.unusedVariables false
set_option linter.unusedSimpArgs false
open Go.RowKit Go.Proofs.Ytfoolbcfpedhmaa.PA Go.Proofs.YtfoolbcfpedhmaaW.PrintWords Go.Proofs.YtfoolbcfpedhmaaW.PrintLast Go.Proofs.YtfoolbcfpedhmaaW.PrintMore Go.Proofs.YtfoolbcfpedhmaaW.EvKit
instance : DecidableEq S38 := fun p q => decidable_of_iff (p.f1 = q.f1 ∧ p.f0 = q.f0) (by cases p; cases q; simp only [S38.mk.injEq]; exact And.comm)
structure Bd (l : List S38) : Prop where
  len : l.length ≤ 1048576
  out : ∀ p ∈ l, p.f0.length ≤ 1048576
def okP (p : S38) : Bool := smallB p.f0 && (decide (0 ≤ p.f1) && decide (p.f1 ≤ 1073741824))
theorem okP_iff {p : S38} : okP p = true ↔ smallB p.f0 = true ∧ 0 ≤ p.f1 ∧ p.f1 ≤ 1073741824 := by simp [okP]
def makeP (l : List S38) : List S38 × Int := if l.all okP = true then tDone (tMerge (sortP l)) else ([], 3)
theorem all_ok {l : List S38} (h : l.all okP = true) : ∀ p ∈ l, 0 ≤ p.f1 ∧ p.f1 ≤ 1073741824 := fun p hp => (okP_iff.1 (List.all_eq_true.1 h p hp)).2
theorem all_tot {l : List S38} (h : l.all okP = true) (hl : l.length ≤ 1048576) : totOf l ≤ 4611686018427387904 := by
  have := tot_bd (all_ok h)
  omega
theorem tidyF (l : List S38) (hl : l.length ≤ 1048576) (h : l.all okP = true) : dist_tidy.F l = some (tDone (tMerge (sortP l))) := by
  rw [dist_tidy.F_eq, if_pos]
  unfold tGuard
  have := all_tot h hl
  simp only [Bool.and_eq_true, decide_eq_true_eq, List.all_eq_true]
  exact ⟨⟨by omega, fun p hp => (all_ok h p hp).1⟩, this⟩
theorem cloneF (o : List Int) (h : o.length ≤ 1048576) : slices_Clone_int_int.f o = some o := by
  unfold slices_Clone_int_int.f
  rw [if_pos (by omega)]
theorem make_loop (l : List S38) (h : Bd l) : ∀ (n i : Nat), i + n = l.length → (l.take i).all okP = true →
    dist_Make.L0 (l.take i) l (l.length : Int) (i : Int) = some (if (l.drop i).all okP = true then tDone (tMerge (sortP l)) else ([], 3)) := by
  have hl := h.len
  intro n
  induction n with
  | zero =>
    intro i hi ha
    rw [List.take_of_length_le (show l.length ≤ i by omega)] at ha ⊢
    rw [dist_Make.L0_eq, if_neg (by omega), tidyF l h.len ha, Option.bind_some, List.drop_of_length_le (show l.length ≤ i by omega)]
    rfl
  | succ n ih =>
    intro i hi ha
    have hxi : i < l.length := by omega
    have ho := h.out _ (mem_at hxi)
    rw [dist_Make.L0_eq, if_pos (by omega), if_pos (by omega), if_pos (by omega), rd32At hxi, smallF _ ho, Option.bind_some, List.drop_eq_getElem_cons hxi, List.all_cons]
    have e : okP l[i] = (smallB l[i].f0 && (decide (0 ≤ l[i].f1) && decide (l[i].f1 ≤ 1073741824))) := rfl
    cases c : smallB l[i].f0 with
    | false =>
      rw [if_neg (by decide), e, c]
      rfl
    | true =>
      rw [if_pos rfl]
      by_cases c1 : l[i].f1 < 0
      · rw [if_pos c1, if_neg]
        rw [e, decide_eq_false (show ¬ 0 ≤ l[i].f1 by omega)]
        simp
      · rw [if_neg c1]
        by_cases c2 : l[i].f1 > 1073741824
        · rw [if_pos c2, if_neg]
          rw [e, decide_eq_false (show ¬ l[i].f1 ≤ 1073741824 by omega)]
          simp
        · have hok : okP l[i] = true := okP_iff.2 ⟨c, by omega, by omega⟩
          rw [if_neg c2, cloneF _ ho, Option.bind_some, if_pos (by rw [List.length_take]; omega), hok, Bool.true_and, w1 (by omega)]
          have e2 : l.take i ++ [(⟨l[i].f0, l[i].f1⟩ : S38)] = l.take (i + 1) := (take_one hxi).symm
          rw [e2]
          exact ih (i + 1) (by omega) (by rw [take_one hxi, List.all_append, ha]; simp [hok])
theorem makeF1 (l : List S38) (h : Bd l) : dist_Make.F l = some (makeP l) := by
  rw [dist_Make.F_eq]
  exact make_loop l h l.length 0 (by omega) (by simp)
theorem tDone_bd {D : List S38} (h : Bd D) : Bd (tDone D).1 := by
  unfold tDone
  split
  · exact ⟨by simp, by simp⟩
  · split
    · exact ⟨by simp, by simp⟩
    · refine ⟨by simpa using h.len, fun p hp => ?_⟩
      obtain ⟨q, hq, rfl⟩ := List.mem_map.1 hp
      exact h.out q hq
theorem makeP_bd {l : List S38} (h : Bd l) : Bd (makeP l).1 := by
  unfold makeP
  split
  · rename_i c
    have h0 : ∀ p ∈ l, 0 ≤ p.f1 := fun p hp => (all_ok c p hp).1
    refine tDone_bd ⟨?_, fun q hq => ?_⟩
    · have := tMerge_len l
      have := h.len
      omega
    · obtain ⟨p, hp, e, _⟩ := (outs_iff (tidy_canon h0) h0 q.f0).2 ⟨q, hq, rfl⟩
      rw [← e]
      exact h.out p hp
  · exact ⟨by simp, by simp⟩
theorem s32_eq {p q : S38} : p = q ↔ p.f1 = q.f1 ∧ p.f0 = q.f0 := by
  cases p; cases q
  simp only [S38.mk.injEq]
  exact And.comm
theorem same_loop (a b : List S38) (ha : Bd a) (hb : Bd b) (hl : a.length = b.length) : ∀ (n i : Nat), i + n = a.length →
    api_Part.L0 b a (a.length : Int) (i : Int) = some (decide (a.drop i = b.drop i)) := by
  have hla := ha.len
  intro n
  induction n with
  | zero =>
    intro i hi
    rw [api_Part.L0_eq, if_neg (by omega), List.drop_of_length_le (show a.length ≤ i by omega), List.drop_of_length_le (show b.length ≤ i by omega)]
    rfl
  | succ n ih =>
    intro i hi
    have h1 : i < a.length := by omega
    have h2 : i < b.length := by omega
    rw [api_Part.L0_eq, if_pos (by omega), if_pos (by omega), if_pos (by omega), if_pos (by omega), rd32At h1, rd32At h2, List.drop_eq_getElem_cons h1, List.drop_eq_getElem_cons h2, dist_same_1.F_eq]
    by_cases c1 : a[i].f1 = b[i].f1
    · rw [if_pos c1, eqF _ _ (ha.out _ (mem_at h1)), Option.bind_some, Option.bind_some]
      by_cases c2 : a[i].f0 = b[i].f0
      · rw [if_pos (decide_eq_true c2), w1 (by omega), ih (i + 1) (by omega), show a[i] = b[i] from s32_eq.2 ⟨c1, c2⟩]
        congr 1
        rw [decide_eq_decide]
        exact ⟨fun h => by rw [h], fun h => by injection h⟩
      · rw [if_neg (by simpa using c2)]
        congr 1
        symm
        rw [decide_eq_false_iff_not]
        intro h
        injection h with h _
        exact c2 (by rw [h])
    · rw [if_neg c1, Option.bind_some, if_neg (by decide)]
      congr 1
      symm
      rw [decide_eq_false_iff_not]
      intro h
      injection h with h _
      exact c1 (by rw [h])
theorem sameF (a b : List S38) (ha : Bd a) (hb : Bd b) : dist_same.F a b = some (decide (a = b)) := by
  rw [dist_same.F_eq, api_Part.F_eq]
  by_cases h : a.length = b.length
  · rw [if_pos (by omega)]
    rw [show (0 : Int) = ((0 : Nat) : Int) from rfl, same_loop a b ha hb h a.length 0 (by omega)]
    rfl
  · rw [if_neg (by omega), Option.bind_some]
    congr 1
    symm
    rw [decide_eq_false_iff_not]
    intro e
    exact h (by rw [e])
def wrongP (d : List S38) : Int := if (makeP d).2 = 0 then (if d = (makeP d).1 then 0 else 2) else (makeP d).2
theorem wrongF (d : List S38) (h : Bd d) : dist_Wrong.F d = some (wrongP d) := by
  rw [dist_Wrong.F_eq, makeF1 d h, Option.bind_some]
  unfold wrongP
  by_cases c : (makeP d).2 = 0
  · rw [if_pos c, if_pos c, sameF _ _ h (makeP_bd h), Option.bind_some]
    by_cases c2 : d = (makeP d).1
    · rw [if_pos (decide_eq_true c2), if_pos c2, c]
    · rw [if_neg (by simpa using c2), if_neg c2]
  · rw [if_neg c, if_neg c]
structure Right (d : List S38) : Prop where
  ok : d.all okP = true
  st : Strict d
  pos : 0 < totOf d
  few : totOf d ≤ 1073741824
  much : d.length ≤ 4096
theorem div_sum (g : Int) (hg : 0 < g) : ∀ (D : List S38), totOf (D.map (fun p => (⟨p.f0, p.f1 / g⟩ : S38))) ≤ totOf D / g
  | [] => by rw [List.map_nil, totOf_nil, Int.zero_ediv]; exact Int.le_refl 0
  | p :: D => by
    have ih := div_sum g hg D
    rw [List.map_cons, totOf_cons, totOf_cons]
    have h1 := Int.ediv_mul_le p.f1 (show g ≠ 0 by omega)
    have h2 := Int.ediv_mul_le (totOf D) (show g ≠ 0 by omega)
    have h3 : p.f1 / g + totOf D / g ≤ (p.f1 + totOf D) / g := by
      rw [Int.le_ediv_iff_mul_le hg, Int.add_mul]
      omega
    show p.f1 / g + _ ≤ _
    omega
theorem right_of {d : List S38} (h : wrongP d = 0) : Right d := by
  unfold wrongP at h
  by_cases c : (makeP d).2 = 0
  · rw [if_pos c] at h
    by_cases c2 : d = (makeP d).1
    · unfold makeP at c c2
      by_cases ho : d.all okP = true
      · rw [if_pos ho] at c c2
        have h0 : ∀ p ∈ d, 0 ≤ p.f1 := fun p hp => (all_ok ho p hp).1
        have hc := tidy_canon h0
        have htot := tMerge_tot d
        unfold tDone at c c2
        by_cases e1 : tMerge (sortP d) = []
        · rw [if_pos e1] at c; cases c
        · rw [if_neg e1] at c c2
          have hg := gOf_pos hc.pos e1
          by_cases e2 : totOf (tMerge (sortP d)) / (gOf (tMerge (sortP d)) : Int) > 1073741824 ∨ (tMerge (sortP d)).length > 4096
          · rw [if_pos e2] at c; cases c
          · rw [if_neg e2] at c2
            dsimp only at c2
            have hs := div_sum (gOf (tMerge (sortP d)) : Int) (by omega) (tMerge (sortP d))
            have htot2 : 0 < totOf (tMerge (sortP d)) := by
              cases hD : tMerge (sortP d) with
              | nil => exact absurd hD e1
              | cons q D =>
                have hp := hc.pos q (by rw [hD]; simp)
                have h2 := one_le (l := tMerge (sortP d)) (fun p hp => Int.le_of_lt (hc.pos p hp)) (p := q) (by rw [hD]; simp)
                rw [hD] at h2
                omega
            refine ⟨ho, ?_, by omega, ?_, ?_⟩
            · rw [c2]
              unfold Strict
              rw [List.pairwise_map]
              exact hc.st
            · rw [← c2] at hs
              omega
            · have := congrArg List.length c2
              rw [List.length_map] at this
              omega
      · rw [if_neg ho] at c; cases c
    · rw [if_neg c2] at h; cases h
  · rw [if_neg c] at h; exact absurd h c
end Go.Proofs.Ytfoolbcfpedhmaa.DistPure
end
section
namespace Go.Proofs.Ytfoolbcfpedhmaa.DistPure
set_option linter.unusedVariables false
set_option linter.unusedSimpArgs false
open Go.RowKit Go.Proofs.Ytfoolbcfpedhmaa.PA Go.Proofs.YtfoolbcfpedhmaaW.PrintWords Go.Proofs.YtfoolbcfpedhmaaW.PrintLast Go.Proofs.YtfoolbcfpedhmaaW.PrintMore Go.Proofs.YtfoolbcfpedhmaaW.EvKit
theorem gOf_dvd_go : ∀ (d : List S38) (g : Nat), d.foldl (fun g p => Nat.gcd p.f1.toNat g) g ∣ g ∧ ∀ p ∈ d, d.foldl (fun g p => Nat.gcd p.f1.toNat g) g ∣ p.f1.toNat
  | [], g => ⟨Nat.dvd_refl _, fun p hp => by cases hp⟩
  | q :: d, g => by
    rw [List.foldl_cons]
    obtain ⟨h1, h2⟩ := gOf_dvd_go d (Nat.gcd q.f1.toNat g)
    refine ⟨Nat.dvd_trans h1 (Nat.gcd_dvd_right _ _), fun p hp => ?_⟩
    rcases List.mem_cons.1 hp with e | e
    · rw [e]; exact Nat.dvd_trans h1 (Nat.gcd_dvd_left _ _)
    · exact h2 p e
theorem gOf_dvd {d : List S38} {p : S38} (h : p ∈ d) : gOf d ∣ p.f1.toNat := (gOf_dvd_go d 0).2 p h
theorem gOf_max_go : ∀ (d : List S38) (g n : Nat), n ∣ g → (∀ p ∈ d, n ∣ p.f1.toNat) → n ∣ d.foldl (fun g p => Nat.gcd p.f1.toNat g) g
  | [], g, n, h, _ => h
  | q :: d, g, n, h, h0 => gOf_max_go d _ n (Nat.dvd_gcd (h0 q (by simp)) h) (fun p hp => h0 p (by simp [hp]))
theorem gOf_max {d : List S38} {n : Nat} (h : ∀ p ∈ d, n ∣ p.f1.toNat) : n ∣ gOf d := gOf_max_go d 0 n (Nat.dvd_zero n) h
theorem div_pos' {p : Int} {g : Nat} (hp : 0 < p) (hg : 0 < g) (hd : g ∣ p.toNat) : ∃ m : Nat, 0 < m ∧ p / (g : Int) = (m : Int) ∧ p.toNat = g * m := by
  obtain ⟨m, hm⟩ := hd
  have e : p = ((g * m : Nat) : Int) := by rw [← hm]; omega
  refine ⟨m, ?_, ?_, hm⟩
  · rcases Nat.eq_zero_or_pos m with h | h
    · rw [h, Nat.mul_zero] at hm; omega
    · exact h
  · rw [e, Int.natCast_mul, Int.mul_ediv_cancel_left _ (by omega)]
theorem canon_self {l : List S38} (hs : Strict l) (hp : ∀ p ∈ l, 0 < p.f1) : tMerge (sortP l) = l :=
  (tidy_canon (fun p h => Int.le_of_lt (hp p h))).uniq (⟨hs, hp, fun _ => rfl⟩ : Canon l l) (fun _ => rfl)
def divG (l : List S38) : List S38 := l.map (fun p => (⟨p.f0, p.f1 / (gOf l : Int)⟩ : S38))
structure Ord (l : List S38) : Prop where
  st : Strict l
  pos : ∀ p ∈ l, 0 < p.f1
  ok : l.all okP = true
  ne : l ≠ []
  few : totOf l ≤ 1073741824
  much : l.length ≤ 4096
theorem Ord.make {l : List S38} (h : Ord l) : makeP l = (divG l, 0) := by
  have hg := gOf_pos h.pos h.ne
  have h0 : 0 ≤ totOf l := by
    cases hl : l with
    | nil => exact absurd hl h.ne
    | cons q D =>
      have h1 := one_le (l := l) (fun p hp => Int.le_of_lt (h.pos p hp)) (p := q) (by rw [hl]; simp)
      have h2 := h.pos q (by rw [hl]; simp)
      rw [← hl]; omega
  have h1 : totOf l / (gOf l : Int) ≤ totOf l := Int.ediv_le_self _ h0
  have h2 := h.few
  have h3 := h.much
  unfold makeP
  rw [if_pos h.ok, canon_self h.st h.pos]
  unfold tDone
  rw [if_neg h.ne, if_neg (by omega)]
  rfl
theorem Ord.mem {l : List S38} (h : Ord l) {q : S38} (hq : q ∈ divG l) : ∃ p ∈ l, ∃ m : Nat, 0 < m ∧ q = ⟨p.f0, (m : Int)⟩ ∧ p.f1 = ((gOf l * m : Nat) : Int) := by
  obtain ⟨p, hp, rfl⟩ := List.mem_map.1 hq
  obtain ⟨m, h1, h2, h3⟩ := div_pos' (h.pos p hp) (gOf_pos h.pos h.ne) (gOf_dvd hp)
  have h4 := h.pos p hp
  exact ⟨p, hp, m, h1, by rw [h2], by omega⟩
theorem wOf_map (g : Nat) (hg : 0 < g) (o : List Int) : ∀ (L : List S38), (∀ p ∈ L, 0 < p.f1 ∧ g ∣ p.f1.toNat) → wOf (L.map (fun p => (⟨p.f0, p.f1 / (g : Int)⟩ : S38))) o * (g : Int) = wOf L o
  | [], _ => by simp [wOf, isum]
  | p :: L, h => by
    have ih := wOf_map g hg o L (fun q hq => h q (by simp [hq]))
    obtain ⟨h1, h2⟩ := h p (by simp)
    obtain ⟨m, _, e, e'⟩ := div_pos' h1 hg h2
    have e2 : p.f1 / (g : Int) * (g : Int) = p.f1 := by
      rw [e, ← Int.natCast_mul, Nat.mul_comm]; omega
    rw [List.map_cons, wOf_cons, wOf_cons, Int.add_mul, ih]
    by_cases c : p.f0 = o
    · rw [if_pos c, if_pos c, e2]
    · rw [if_neg c, if_neg c, Int.zero_mul]
theorem tot_map (g : Nat) (hg : 0 < g) : ∀ (L : List S38), (∀ p ∈ L, 0 < p.f1 ∧ g ∣ p.f1.toNat) → totOf (L.map (fun p => (⟨p.f0, p.f1 / (g : Int)⟩ : S38))) * (g : Int) = totOf L
  | [], _ => by rw [List.map_nil, totOf_nil, Int.zero_mul]
  | p :: L, h => by
    have ih := tot_map g hg L (fun q hq => h q (by simp [hq]))
    obtain ⟨h1, h2⟩ := h p (by simp)
    obtain ⟨m, _, e, e'⟩ := div_pos' h1 hg h2
    have e2 : p.f1 / (g : Int) * (g : Int) = p.f1 := by
      rw [e, ← Int.natCast_mul, Nat.mul_comm]; omega
    rw [List.map_cons, totOf_cons, totOf_cons, Int.add_mul, ih]
    show p.f1 / (g : Int) * (g : Int) + _ = _
    rw [e2]
theorem Ord.all {l : List S38} (h : Ord l) : ∀ p ∈ l, 0 < p.f1 ∧ gOf l ∣ p.f1.toNat := fun p hp => ⟨h.pos p hp, gOf_dvd hp⟩
theorem Ord.w {l : List S38} (h : Ord l) (o : List Int) : wOf (divG l) o * (gOf l : Int) = wOf l o := wOf_map (gOf l) (gOf_pos h.pos h.ne) o l h.all
theorem Ord.t {l : List S38} (h : Ord l) : totOf (divG l) * (gOf l : Int) = totOf l := tot_map (gOf l) (gOf_pos h.pos h.ne) l h.all
theorem Ord.g1 {l : List S38} (h : Ord l) : gOf (divG l) = 1 := by
  have hg := gOf_pos h.pos h.ne
  have h1 : gOf l * gOf (divG l) ∣ gOf l := gOf_max (fun q hq => by
    obtain ⟨m, _, h2, h3⟩ := div_pos' (h.pos q hq) hg (gOf_dvd hq)
    have h4 := gOf_dvd (List.mem_map.2 ⟨q, hq, rfl⟩ : (⟨q.f0, q.f1 / (gOf l : Int)⟩ : S38) ∈ divG l)
    rw [h3]
    refine Nat.mul_dvd_mul_left _ ?_
    have h5 : (q.f1 / (gOf l : Int)).toNat = m := by rw [h2]; omega
    rw [← h5]
    exact h4)
  have h2 := Nat.le_of_dvd hg h1
  have h3 : 0 < gOf (divG l) := by
    refine gOf_pos (fun p hp => ?_) (by unfold divG; simpa using h.ne)
    obtain ⟨_, _, m, h1, rfl, _⟩ := h.mem hp
    show (0 : Int) < m
    omega
  generalize gOf (divG l) = x at *
  rcases Nat.lt_or_ge 1 x with c | c
  · have := Nat.mul_lt_mul_of_pos_left c hg
    omega
  · omega
theorem Ord.div {l : List S38} (h : Ord l) : Ord (divG l) := by
  have hg := gOf_pos h.pos h.ne
  refine ⟨?_, ?_, ?_, by unfold divG; simpa using h.ne, ?_, by unfold divG; rw [List.length_map]; exact h.much⟩
  · unfold Strict divG
    rw [List.pairwise_map]
    exact h.st
  · intro p hp
    obtain ⟨_, _, m, h1, rfl, _⟩ := h.mem hp
    show (0 : Int) < m
    omega
  · rw [List.all_eq_true]
    intro q hq
    obtain ⟨p, hp, m, h1, rfl, e⟩ := h.mem hq
    obtain ⟨k1, k2, k3⟩ := okP_iff.1 (List.all_eq_true.1 h.ok p hp)
    have : m ≤ gOf l * m := Nat.le_mul_of_pos_left m hg
    refine okP_iff.2 ⟨k1, ?_, ?_⟩
    · show (0 : Int) ≤ m
      omega
    · show (m : Int) ≤ 1073741824
      omega
  · have := div_sum (gOf l : Int) (by omega) l
    have h2 := h.few
    have h1 : totOf l / (gOf l : Int) ≤ totOf l := by
      refine Int.ediv_le_self _ ?_
      cases hl : l with
      | nil => exact absurd hl h.ne
      | cons q D =>
        have h1 := one_le (l := l) (fun p hp => Int.le_of_lt (h.pos p hp)) (p := q) (by rw [hl]; simp)
        have h2 := h.pos q (by rw [hl]; simp)
        rw [← hl]; omega
    unfold divG
    omega
theorem Ord.wrong {l : List S38} (h : Ord l) : wrongP (divG l) = 0 := by
  have e : divG (divG l) = divG l := by
    have h1 := h.g1
    have e2 : divG (divG l) = (divG l).map (fun p => (⟨p.f0, p.f1 / (gOf (divG l) : Int)⟩ : S38)) := rfl
    rw [e2, h1]
    have e3 : ∀ L : List S38, L.map (fun p => (⟨p.f0, p.f1 / ((1 : Nat) : Int)⟩ : S38)) = L := fun L => by
      induction L with
      | nil => rfl
      | cons p L ih =>
        rw [List.map_cons, ih]
        congr 1
        have : p.f1 / ((1 : Nat) : Int) = p.f1 := by rw [Int.natCast_one, Int.ediv_one]
        rw [this]
    exact e3 _
  unfold wrongP
  rw [h.div.make, e]
  simp
theorem Ord.bd {l : List S38} (h : Ord l) (hb : Bd l) : Bd (divG l) := by
  have := makeP_bd hb
  rw [h.make] at this
  exact this
end Go.Proofs.Ytfoolbcfpedhmaa.DistPure
end
section
namespace Go.Proofs.Ytfoolbcfpedhmaa.DistPure
set_option linter.unusedVariables false
set_option linter.unusedSimpArgs false
open Go.RowKit Go.Proofs.Ytfoolbcfpedhmaa.PA Go.Proofs.YtfoolbcfpedhmaaW.PrintWords Go.Proofs.YtfoolbcfpedhmaaW.PrintLast Go.Proofs.YtfoolbcfpedhmaaW.PrintMore Go.Proofs.YtfoolbcfpedhmaaW.EvKit
theorem g1_of {l : List S38} (hp : ∀ p ∈ l, 0 < p.f1) (hn : l ≠ []) : gOf (divG l) = 1 := by
  have hg := gOf_pos hp hn
  have h1 : gOf l * gOf (divG l) ∣ gOf l := gOf_max (fun q hq => by
    obtain ⟨m, _, h2, h3⟩ := div_pos' (hp q hq) hg (gOf_dvd hq)
    have h4 := gOf_dvd (List.mem_map.2 ⟨q, hq, rfl⟩ : (⟨q.f0, q.f1 / (gOf l : Int)⟩ : S38) ∈ divG l)
    rw [h3]
    refine Nat.mul_dvd_mul_left _ ?_
    have h5 : (q.f1 / (gOf l : Int)).toNat = m := by rw [h2]; omega
    rw [← h5]
    exact h4)
  have h2 := Nat.le_of_dvd hg h1
  have h3 : 0 < gOf (divG l) := by
    refine gOf_pos (fun p hp' => ?_) (by unfold divG; simpa using hn)
    obtain ⟨q, hq, rfl⟩ := List.mem_map.1 hp'
    obtain ⟨m, h1, h2, _⟩ := div_pos' (hp q hq) hg (gOf_dvd hq)
    show 0 < q.f1 / (gOf l : Int)
    omega
  generalize gOf (divG l) = x at *
  rcases Nat.lt_or_ge 1 x with c | c
  · have := Nat.mul_lt_mul_of_pos_left c hg
    omega
  · omega
theorem divG_same {l : List S38} (h : gOf l = 1) : divG l = l := by
  unfold divG
  rw [h]
  have e3 : ∀ L : List S38, L.map (fun p => (⟨p.f0, p.f1 / ((1 : Nat) : Int)⟩ : S38)) = L := fun L => by
    induction L with
    | nil => rfl
    | cons p L ih =>
      rw [List.map_cons, ih]
      congr 1
      have : p.f1 / ((1 : Nat) : Int) = p.f1 := by rw [Int.natCast_one, Int.ediv_one]
      rw [this]
  exact e3 l
theorem make_right' {l : List S38} (h : (makeP l).2 = 0) : wrongP (makeP l).1 = 0 ∧ ∃ g : Nat, 0 < g ∧ (∀ o, wOf (makeP l).1 o * (g : Int) = wOf l o) ∧ totOf (makeP l).1 * (g : Int) = totOf l := by
  unfold makeP at h ⊢
  by_cases ho : l.all okP = true
  · rw [if_pos ho] at h ⊢
    have h0 : ∀ p ∈ l, 0 ≤ p.f1 := fun p hp => (all_ok ho p hp).1
    have hc := tidy_canon h0
    have htot := tMerge_tot l
    have hout : ∀ q ∈ tMerge (sortP l), smallB q.f0 = true := fun q hq => by
      obtain ⟨p, hp, e, _⟩ := (outs_iff hc h0 q.f0).2 ⟨q, hq, rfl⟩
      rw [← e]
      exact (okP_iff.1 (List.all_eq_true.1 ho p hp)).1
    generalize hD : tMerge (sortP l) = D at *
    unfold tDone at h ⊢
    by_cases e1 : D = []
    · rw [if_pos e1] at h; cases h
    · rw [if_neg e1] at h ⊢
      by_cases e2 : totOf D / (gOf D : Int) > 1073741824 ∨ D.length > 4096
      · rw [if_pos e2] at h; cases h
      · rw [if_neg e2]
        have hg := gOf_pos hc.pos e1
        have all : ∀ p ∈ D, 0 < p.f1 ∧ gOf D ∣ p.f1.toNat := fun p hp => ⟨hc.pos p hp, gOf_dvd hp⟩
        have hs := div_sum (gOf D : Int) (by omega) D
        have ps : ∀ p ∈ divG D, 0 < p.f1 := fun p hp => by
          obtain ⟨q, hq, rfl⟩ := List.mem_map.1 hp
          obtain ⟨m, h1, h2, _⟩ := div_pos' (hc.pos q hq) hg (gOf_dvd hq)
          show 0 < q.f1 / (gOf D : Int)
          omega
        have hO : Ord (divG D) := by
          refine ⟨?_, ps, ?_, by unfold divG; simpa using e1, ?_, by unfold divG; rw [List.length_map]; omega⟩
          · unfold Strict divG
            rw [List.pairwise_map]
            exact hc.st
          · rw [List.all_eq_true]
            intro q hq
            have h3 := one_le (l := divG D) (fun p hp => Int.le_of_lt (ps p hp)) hq
            have h4 := ps q hq
            have h5 : totOf (divG D) ≤ totOf D / (gOf D : Int) := hs
            obtain ⟨p, hp, rfl⟩ := List.mem_map.1 hq
            exact okP_iff.2 ⟨hout p hp, by omega, by omega⟩
          · have h5 : totOf (divG D) ≤ totOf D / (gOf D : Int) := hs
            omega
        have hg1 := g1_of hc.pos e1
        constructor
        · show wrongP (divG D) = 0
          unfold wrongP
          rw [hO.make, divG_same hg1]
          simp
        · refine ⟨gOf D, hg, fun o => ?_, ?_⟩
          · exact (wOf_map (gOf D) hg o D all).trans (hc.w o)
          · exact (tot_map (gOf D) hg D all).trans htot
  · rw [if_neg ho] at h; cases h
end Go.Proofs.Ytfoolbcfpedhmaa.DistPure
end
section
namespace Go.Proofs.Ytfoolbcfpedhmaa.PA
open Go.RowKit Go.Proofs.YtfoolbcfpedhmaaW.PrintWords Go.Proofs.YtfoolbcfpedhmaaW.PrintLast Go.Proofs.YtfoolbcfpedhmaaW.PrintMore
open Go.Proofs.YtfoolbcfpedhmaaW.EvKit
set_option linter.unusedVariables false
noncomputable def dist_wrongs.L0 (x6 : List (List (S38))) (x7 : Int) (x8 : Int) : Option (Int) := lim (fun k => dist_wrongs.l0 k x6 x7 x8)
theorem dist_wrongs.L0_is (x6 : List (List (S38))) (x7 : Int) (x8 : Int) : LimIs (fun k => dist_wrongs.l0 k x6 x7 x8) (dist_wrongs.L0 x6 x7 x8) := ⟨fun k => (dist_wrongs.mono_l k) x6 x7 x8, rfl⟩
noncomputable def dist_more.L0 (x0 : Int) (x1 : Int) (x2 : Int) (x3 : Int) : Option (Bool) := lim (fun k => dist_more.l0 k x0 x1 x2 x3)
theorem dist_more.L0_is (x0 : Int) (x1 : Int) (x2 : Int) (x3 : Int) : LimIs (fun k => dist_more.l0 k x0 x1 x2 x3) (dist_more.L0 x0 x1 x2 x3) := ⟨fun k => (dist_more.mono_l k) x0 x1 x2 x3, rfl⟩
noncomputable def dist_wrongs.F (l0 : List (List (S38))) : Option (Int) := lim (fun k => dist_wrongs.f k l0)
theorem dist_wrongs.F_is (l0 : List (List (S38))) : LimIs (fun k => dist_wrongs.f k l0) (dist_wrongs.F l0) := ⟨fun k => dist_wrongs.mono l0 k, rfl⟩
noncomputable def dist_more.F (a0 : Int) (a1 : Int) (a2 : Int) (a3 : Int) : Option (Bool) := lim (fun k => dist_more.f k a0 a1 a2 a3)
theorem dist_more.F_is (a0 : Int) (a1 : Int) (a2 : Int) (a3 : Int) : LimIs (fun k => dist_more.f k a0 a1 a2 a3) (dist_more.F a0 a1 a2 a3) := ⟨fun k => dist_more.mono a0 a1 a2 a3 k, rfl⟩
set_option maxRecDepth 100000 in
theorem dist_wrongs.L0_eq (x6 : List (List (S38))) (x7 : Int) (x8 : Int) : dist_wrongs.L0 x6 x7 x8 = if x8 < x7 then (if 0 ≤ x8 then (if x8 < (x6.length : Int) then ((dist_Wrong.F (rd_L3 x6 x8)).bind fun t222 => (if t222 = 0 then (dist_wrongs.L0 x6 x7 (wrap64 (x8 + 1))) else (some t222))) else (none)) else (none)) else (some 0) := by
  refine LimIs.step' (dist_wrongs.L0_is x6 x7 x8).1 (b := fun k => if x8 < x7 then (if 0 ≤ x8 then (if x8 < (x6.length : Int) then ((dist_Wrong.f k (rd_L3 x6 x8)).bind fun t222 => (if t222 = 0 then (dist_wrongs.l0 k x6 x7 (wrap64 (x8 + 1))) else (some t222))) else (none)) else (none)) else (some 0)) (fun k => by first | rfl | rw [dist_wrongs.l0]) ?_
  repeat' first
    | (with_reducible exact dist_Wrong.F_is _)
    | (with_reducible exact dist_wrongs.L0_is _ _ _)
    | (with_reducible exact LimIs.const _)
    | (with_reducible refine LimIs.ite ?_ ?_)
    | (with_reducible refine LimIs.bind ?_ (fun _ => ?_))
    | exact dist_Wrong.F_is _
    | exact dist_wrongs.L0_is _ _ _
    | exact LimIs.const _
    | refine LimIs.ite ?_ ?_
    | refine LimIs.bind ?_ (fun _ => ?_)
set_option maxRecDepth 100000 in
theorem dist_more.L0_eq (x0 : Int) (x1 : Int) (x2 : Int) (x3 : Int) : dist_more.L0 x0 x1 x2 x3 = if x1 = 0 then (none) else (if x3 = 0 then (none) else (if (wrap64 (Int.tdiv x0 x1)) = (wrap64 (Int.tdiv x2 x3)) then (if (Int.tmod x0 x1) = 0 then (some (decide ((Int.tmod x0 x1) > 0))) else (if (Int.tmod x2 x3) = 0 then (some (decide ((Int.tmod x0 x1) > 0))) else (dist_more.L0 x3 (Int.tmod x2 x3) x1 (Int.tmod x0 x1)))) else (some (decide ((wrap64 (Int.tdiv x0 x1)) > (wrap64 (Int.tdiv x2 x3))))))) := by
  refine LimIs.step' (dist_more.L0_is x0 x1 x2 x3).1 (b := fun k => if x1 = 0 then (none) else (if x3 = 0 then (none) else (if (wrap64 (Int.tdiv x0 x1)) = (wrap64 (Int.tdiv x2 x3)) then (if (Int.tmod x0 x1) = 0 then (some (decide ((Int.tmod x0 x1) > 0))) else (if (Int.tmod x2 x3) = 0 then (some (decide ((Int.tmod x0 x1) > 0))) else (dist_more.l0 k x3 (Int.tmod x2 x3) x1 (Int.tmod x0 x1)))) else (some (decide ((wrap64 (Int.tdiv x0 x1)) > (wrap64 (Int.tdiv x2 x3)))))))) (fun k => by first | rfl | rw [dist_more.l0]) ?_
  repeat' first
    | (with_reducible exact dist_more.L0_is _ _ _ _)
    | (with_reducible exact LimIs.const _)
    | (with_reducible refine LimIs.ite ?_ ?_)
    | (with_reducible refine LimIs.bind ?_ (fun _ => ?_))
    | exact dist_more.L0_is _ _ _ _
    | exact LimIs.const _
    | refine LimIs.ite ?_ ?_
    | refine LimIs.bind ?_ (fun _ => ?_)
set_option maxRecDepth 100000 in
theorem dist_wrongs.F_eq (l0 : List (List (S38))) : dist_wrongs.F l0 = dist_wrongs.L0 l0 (l0.length : Int) 0 := by
  refine LimIs.out (?_ : LimIs (fun k => dist_wrongs.l0 k l0 (l0.length : Int) 0) _)
  repeat' first
    | (with_reducible exact dist_wrongs.L0_is _ _ _)
    | (with_reducible exact LimIs.const _)
    | (with_reducible refine LimIs.ite ?_ ?_)
    | (with_reducible refine LimIs.bind ?_ (fun _ => ?_))
    | exact dist_wrongs.L0_is _ _ _
    | exact LimIs.const _
    | refine LimIs.ite ?_ ?_
    | refine LimIs.bind ?_ (fun _ => ?_)
set_option maxRecDepth 100000 in
theorem dist_more.F_eq (a0 : Int) (a1 : Int) (a2 : Int) (a3 : Int) : dist_more.F a0 a1 a2 a3 = dist_more.L0 a0 a1 a2 a3 := by
  refine LimIs.out (?_ : LimIs (fun k => dist_more.l0 k a0 a1 a2 a3) _)
  repeat' first
    | (with_reducible exact dist_more.L0_is _ _ _ _)
    | (with_reducible exact LimIs.const _)
    | (with_reducible refine LimIs.ite ?_ ?_)
    | (with_reducible refine LimIs.bind ?_ (fun _ => ?_))
    | exact dist_more.L0_is _ _ _ _
    | exact LimIs.const _
    | refine LimIs.ite ?_ ?_
    | refine LimIs.bind ?_ (fun _ => ?_)
end Go.Proofs.Ytfoolbcfpedhmaa.PA
end
section
namespace Go.Proofs.Ytfoolbcfpedhmaa.DistPure
set_option linter.unusedVariables false
set_option linter.unusedSimpArgs false
open Go.RowKit Go.Proofs.Ytfoolbcfpedhmaa.PA Go.Proofs.YtfoolbcfpedhmaaW.PrintWords Go.Proofs.YtfoolbcfpedhmaaW.PrintLast Go.Proofs.YtfoolbcfpedhmaaW.PrintMore Go.Proofs.YtfoolbcfpedhmaaW.EvKit
theorem right_form {d : List S38} (h : wrongP d = 0) : ∃ D : List S38, (∀ p ∈ D, 0 < p.f1) ∧ D ≠ [] ∧ d = D.map (fun p => (⟨p.f0, p.f1 / (gOf D : Int)⟩ : S38)) := by
  unfold wrongP at h
  by_cases c : (makeP d).2 = 0
  · rw [if_pos c] at h
    by_cases c2 : d = (makeP d).1
    · unfold makeP at c c2
      by_cases ho : d.all okP = true
      · rw [if_pos ho] at c c2
        have hc := tidy_canon (fun p hp => (all_ok ho p hp).1)
        unfold tDone at c c2
        by_cases e1 : tMerge (sortP d) = []
        · rw [if_pos e1] at c; cases c
        · rw [if_neg e1] at c c2
          by_cases e2 : totOf (tMerge (sortP d)) / (gOf (tMerge (sortP d)) : Int) > 1073741824 ∨ (tMerge (sortP d)).length > 4096
          · rw [if_pos e2] at c; cases c
          · rw [if_neg e2] at c2
            exact ⟨_, hc.pos, e1, c2⟩
      · rw [if_neg ho] at c; cases c
    · rw [if_neg c2] at h; cases h
  · rw [if_neg c] at h; exact absurd h c
theorem right_more {d : List S38} (h : wrongP d = 0) : (∀ p ∈ d, 0 < p.f1) ∧ gOf d = 1 := by
  obtain ⟨D, h0, hn, rfl⟩ := right_form h
  have hg := gOf_pos h0 hn
  have key : ∀ p ∈ D, ∃ m : Nat, 0 < m ∧ p.f1 / (gOf D : Int) = (m : Int) ∧ p.f1.toNat = gOf D * m := fun p hp => div_pos' (h0 p hp) hg (gOf_dvd hp)
  constructor
  · intro p hp
    obtain ⟨q, hq, rfl⟩ := List.mem_map.1 hp
    obtain ⟨m, h1, h2, _⟩ := key q hq
    show 0 < q.f1 / (gOf D : Int)
    omega
  · have h1 : gOf D * gOf (D.map (fun p => (⟨p.f0, p.f1 / (gOf D : Int)⟩ : S38))) ∣ gOf D := gOf_max (fun q hq => by
      obtain ⟨m, _, h2, h3⟩ := key q hq
      have h4 := gOf_dvd (List.mem_map.2 ⟨q, hq, rfl⟩ : (⟨q.f0, q.f1 / (gOf D : Int)⟩ : S38) ∈ D.map (fun p => (⟨p.f0, p.f1 / (gOf D : Int)⟩ : S38)))
      rw [h3]
      refine Nat.mul_dvd_mul_left _ ?_
      have h5 : (q.f1 / (gOf D : Int)).toNat = m := by rw [h2]; omega
      rw [← h5]
      exact h4)
    have h2 := Nat.le_of_dvd hg h1
    have h3 : 0 < gOf (D.map (fun p => (⟨p.f0, p.f1 / (gOf D : Int)⟩ : S38))) := by
      refine gOf_pos (fun p hp => ?_) (by simpa using hn)
      obtain ⟨q, hq, rfl⟩ := List.mem_map.1 hp
      obtain ⟨m, h1, h2, _⟩ := key q hq
      show 0 < q.f1 / (gOf D : Int)
      omega
    generalize gOf (D.map (fun p => (⟨p.f0, p.f1 / (gOf D : Int)⟩ : S38))) = x at *
    rcases Nat.lt_or_ge 1 x with c | c
    · have := Nat.mul_lt_mul_of_pos_left c hg
      omega
    · omega
def outsL (a b : List S38) : List (List Int) := a.map (·.f0) ++ (b.filter (fun p => decide (wOf a p.f0 = 0))).map (·.f0)
def pw (a b : List S38) (o : List Int) : Int × Int := (wOf a o, wOf b o)
theorem wOf_skip {p : S38} {a : List S38} {o : List Int} (h : p.f0 ≠ o) : wOf (p :: a) o = wOf a o := by rw [wOf_cons, if_neg h, Int.zero_add]
theorem wOf_hit {p : S38} {a : List S38} (h : Strict (p :: a)) : wOf (p :: a) p.f0 = p.f1 := by rw [wOf_cons, if_pos rfl, strict_head h, Int.add_zero]
theorem lt_ne {a b : List Int} (h : cmpL a b < 0) : a ≠ b := fun e => by rw [e, cmpL_self] at h; exact absurd h (Int.lt_irrefl 0)
theorem below_none {o : List Int} {b : List S38} (h : ∀ q ∈ b, cmpL o q.f0 < 0) : wOf b o = 0 := wOf_none _ _ (fun q hq e => lt_ne (h q hq) e.symm)
theorem outs_mem {a b : List S38} {o : List Int} (h : o ∈ outsL a b) : (∃ p ∈ a, p.f0 = o) ∨ (∃ q ∈ b, q.f0 = o) := by
  rcases List.mem_append.1 h with h | h
  · exact .inl (List.mem_map.1 h)
  · obtain ⟨q, hq, e⟩ := List.mem_map.1 h
    exact .inr ⟨q, (List.mem_filter.1 hq).1, e⟩
theorem filter_skip {p : S38} {a : List S38} : ∀ {b : List S38}, (∀ q ∈ b, p.f0 ≠ q.f0) → b.filter (fun q => decide (wOf (p :: a) q.f0 = 0)) = b.filter (fun q => decide (wOf a q.f0 = 0)) := fun h =>
  List.filter_congr (fun q hq => by rw [wOf_skip (h q hq)])
theorem side_l {p : S38} {a b : List S38} (hs : Strict (p :: a)) (hb : ∀ q ∈ b, cmpL p.f0 q.f0 < 0) : (outsL (p :: a) b).map (pw (p :: a) b) = (p.f1, 0) :: (outsL a b).map (pw a b) := by
  have hne : ∀ q ∈ b, p.f0 ≠ q.f0 := fun q hq => lt_ne (hb q hq)
  unfold outsL
  rw [filter_skip hne, List.map_cons, List.cons_append, List.map_cons]
  congr 1
  · unfold pw; rw [wOf_hit hs, below_none hb]
  · refine List.map_congr_left (fun o ho => ?_)
    have ho' : p.f0 ≠ o := by
      rcases outs_mem ho with ⟨q, hq, e⟩ | ⟨q, hq, e⟩
      · rw [← e]; exact lt_ne ((List.pairwise_cons.1 hs).1 q hq)
      · rw [← e]; exact hne q hq
    unfold pw; rw [wOf_skip ho']
theorem side_r {q : S38} {a b : List S38} (hs : Strict (q :: b)) (ha : ∀ p ∈ a, cmpL q.f0 p.f0 < 0) : ((outsL a (q :: b)).map (pw a (q :: b))).Perm ((0, q.f1) :: (outsL a b).map (pw a b)) := by
  have e0 : wOf a q.f0 = 0 := below_none ha
  have e1 : outsL a (q :: b) = a.map (·.f0) ++ q.f0 :: (b.filter (fun p => decide (wOf a p.f0 = 0))).map (·.f0) := by
    unfold outsL; rw [List.filter_cons_of_pos (by simpa using e0), List.map_cons]
  rw [e1]
  refine ((List.perm_middle (l₁ := a.map (·.f0))).map _).trans ?_
  rw [List.map_cons]
  have e2 : pw a (q :: b) q.f0 = (0, q.f1) := by unfold pw; rw [e0, wOf_hit hs]
  rw [e2]
  refine List.Perm.cons _ (List.Perm.of_eq ?_)
  refine List.map_congr_left (fun o ho => ?_)
  have ho' : q.f0 ≠ o := by
    rcases outs_mem (a := a) (b := b) ho with ⟨p, hp, e⟩ | ⟨p, hp, e⟩
    · rw [← e]; exact lt_ne (ha p hp)
    · rw [← e]; exact lt_ne ((List.pairwise_cons.1 hs).1 p hp)
  unfold pw; rw [wOf_skip ho']
theorem side_e {p q : S38} {a b : List S38} (hp : 0 < p.f1) (hsa : Strict (p :: a)) (hsb : Strict (q :: b)) (e : p.f0 = q.f0) : (outsL (p :: a) (q :: b)).map (pw (p :: a) (q :: b)) = (p.f1, q.f1) :: (outsL a b).map (pw a b) := by
  have hne : ∀ r ∈ b, p.f0 ≠ r.f0 := fun r hr => by rw [e]; exact lt_ne ((List.pairwise_cons.1 hsb).1 r hr)
  have h1 : wOf (p :: a) q.f0 = p.f1 := by rw [← e]; exact wOf_hit hsa
  unfold outsL
  rw [List.filter_cons_of_neg (by rw [h1]; simp; omega), filter_skip hne, List.map_cons, List.cons_append, List.map_cons]
  congr 1
  · unfold pw; rw [wOf_hit hsa, e, wOf_hit hsb]
  · refine List.map_congr_left (fun o ho => ?_)
    have ho' : p.f0 ≠ o := by
      rcases outs_mem (a := a) (b := b) ho with ⟨r, hr, e2⟩ | ⟨r, hr, e2⟩
      · rw [← e2]; exact lt_ne ((List.pairwise_cons.1 hsa).1 r hr)
      · rw [← e2]; exact hne r hr
    unfold pw; rw [wOf_skip ho', wOf_skip (by rw [← e]; exact ho')]
theorem strict_tail {p : S38} {a : List S38} (h : Strict (p :: a)) : Strict a := (List.pairwise_cons.1 h).2
theorem pairs_perm : ∀ (n : Nat) (a b : List S38), a.length + b.length ≤ n → Strict a → Strict b → (∀ p ∈ a, 0 < p.f1) → (pairsL a b).Perm ((outsL a b).map (pw a b))
  | n, [], [], _, _, _, _ => by rw [pairs_nil]; exact List.Perm.refl _
  | 0, _ :: _, _, h, _, _, _ => by simp at h
  | 0, [], _ :: _, h, _, _, _ => by simp at h
  | n + 1, [], q :: b, h, ha, hb, h0 => by
    rw [pairs_r]
    exact (List.Perm.cons _ (pairs_perm n [] b (by simp at h ⊢; omega) ha (strict_tail hb) h0)).trans (side_r hb (fun p hp => by cases hp)).symm
  | n + 1, p :: a, [], h, ha, hb, h0 => by
    rw [pairs_l, side_l ha (fun q hq => by cases hq)]
    exact List.Perm.cons _ (pairs_perm n a [] (by simp at h ⊢; omega) (strict_tail ha) hb (fun x hx => h0 x (by simp [hx])))
  | n + 1, p :: a, q :: b, h, ha, hb, h0 => by
    by_cases h1 : cmpL p.f0 q.f0 < 0
    · rw [pairs_lt _ _ h1, side_l ha (fun r hr => by
        rcases List.mem_cons.1 hr with c | c
        · rw [c]; exact h1
        · exact cmpL_trans _ _ _ h1 ((List.pairwise_cons.1 hb).1 r c))]
      exact List.Perm.cons _ (pairs_perm n a (q :: b) (by simp at h ⊢; omega) (strict_tail ha) hb (fun x hx => h0 x (by simp [hx])))
    · by_cases h2 : cmpL p.f0 q.f0 > 0
      · rw [pairs_gt _ _ h2]
        have h3 : cmpL q.f0 p.f0 < 0 := by have := cmpL_swap p.f0 q.f0; omega
        exact (List.Perm.cons _ (pairs_perm n (p :: a) b (by simp at h ⊢; omega) ha (strict_tail hb) h0)).trans (side_r hb (fun r hr => by
          rcases List.mem_cons.1 hr with c | c
          · rw [c]; exact h3
          · exact cmpL_trans _ _ _ h3 ((List.pairwise_cons.1 ha).1 r c))).symm
      · rw [pairs_eq _ _ (by omega), side_e (h0 p (by simp)) ha hb (cmpL_eq _ _ (by omega))]
        exact List.Perm.cons _ (pairs_perm n a b (by simp at h ⊢; omega) (strict_tail ha) (strict_tail hb) (fun x hx => h0 x (by simp [hx])))
theorem pairs_perm' {a b : List S38} (ha : Strict a) (hb : Strict b) (h0 : ∀ p ∈ a, 0 < p.f1) : (pairsL a b).Perm ((outsL a b).map (pw a b)) := pairs_perm _ a b (Nat.le_refl _) ha hb h0
end Go.Proofs.Ytfoolbcfpedhmaa.DistPure
end
section
namespace Go.Proofs.Ytfoolbcfpedhmaa.DistPure
set_option linter.unusedVariables false
set_option linter.unusedSimpArgs false
open Go.RowKit Go.Proofs.Ytfoolbcfpedhmaa.PA Go.Proofs.YtfoolbcfpedhmaaW.PrintWords Go.Proofs.YtfoolbcfpedhmaaW.PrintLast Go.Proofs.YtfoolbcfpedhmaaW.PrintMore Go.Proofs.YtfoolbcfpedhmaaW.EvKit
def le2 (f g : Nat × Nat) : Prop := f.1 * g.2 ≤ g.1 * f.2
def pos2 (f : Nat × Nat) : Prop := 1 ≤ f.1 ∧ 1 ≤ f.2
theorem le2_refl (f : Nat × Nat) : le2 f f := Nat.le_refl _
theorem le2_trans {f g h : Nat × Nat} (hg : 1 ≤ g.2) (h1 : le2 f g) (h2 : le2 g h) : le2 f h := by
  unfold le2 at *
  have a : f.1 * g.2 * h.2 ≤ g.1 * f.2 * h.2 := Nat.mul_le_mul_right _ h1
  have b : g.1 * h.2 * f.2 ≤ h.1 * g.2 * f.2 := Nat.mul_le_mul_right _ h2
  have c : f.1 * h.2 * g.2 ≤ h.1 * f.2 * g.2 := by
    calc f.1 * h.2 * g.2 = f.1 * g.2 * h.2 := by rw [Nat.mul_assoc, Nat.mul_comm h.2, ← Nat.mul_assoc]
      _ ≤ g.1 * f.2 * h.2 := a
      _ = g.1 * h.2 * f.2 := by rw [Nat.mul_assoc, Nat.mul_comm f.2, ← Nat.mul_assoc]
      _ ≤ h.1 * g.2 * f.2 := b
      _ = h.1 * f.2 * g.2 := by rw [Nat.mul_assoc, Nat.mul_comm g.2, ← Nat.mul_assoc]
  exact Nat.le_of_mul_le_mul_right c hg
structure Mx (s : Nat × Nat) (F : List (Nat × Nat)) : Prop where
  pos : pos2 s
  one : le2 (1, 1) s
  ub : ∀ f ∈ F, le2 f s
  got : le2 s (1, 1) ∨ ∃ f ∈ F, le2 s f
theorem Mx.start : Mx (1, 1) [] := ⟨⟨Nat.le_refl _, Nat.le_refl _⟩, le2_refl _, fun f hf => (by cases hf), .inl (le2_refl _)⟩
theorem Mx.keep {s f : Nat × Nat} {F : List (Nat × Nat)} (h : Mx s F) (hf : le2 f s) : Mx s (F ++ [f]) :=
  ⟨h.pos, h.one, fun g hg => by
    rcases List.mem_append.1 hg with hg | hg
    · exact h.ub g hg
    · rw [List.mem_singleton.1 hg]; exact hf, by
    rcases h.got with h | ⟨g, hg, h⟩
    · exact .inl h
    · exact .inr ⟨g, by simp [hg], h⟩⟩
theorem Mx.take {s f t : Nat × Nat} {F : List (Nat × Nat)} (h : Mx s F) (ht : pos2 t) (hf : le2 s f) (h1 : le2 f t) (h2 : le2 t f) (hfp : pos2 f) : Mx t (F ++ [f]) :=
  ⟨ht, le2_trans hfp.2 (le2_trans h.pos.2 h.one hf) h1, fun g hg => by
    rcases List.mem_append.1 hg with hg | hg
    · exact le2_trans hfp.2 (le2_trans h.pos.2 (h.ub g hg) hf) h1
    · rw [List.mem_singleton.1 hg]; exact h1, .inr ⟨f, by simp, h2⟩⟩
theorem Mx.le {s t : Nat × Nat} {F G : List (Nat × Nat)} (h : Mx s F) (k : Mx t G) (hF : ∀ f ∈ F, pos2 f ∧ ∃ g ∈ G, pos2 g ∧ le2 f g) : le2 s t := by
  rcases h.got with c | ⟨f, hf, c⟩
  · exact le2_trans (Nat.le_refl 1) c k.one
  · obtain ⟨h1, g, hg, h2, h3⟩ := hF f hf
    exact le2_trans h1.2 c (le2_trans h2.2 h3 (k.ub g hg))
def hl (ta tb : Nat) (x : Int × Int) : Nat × Nat := (fHi ta tb x, fLo ta tb x)
def uv (ta tb : Nat) (x : Int × Int) : Nat × Nat := (x.1.toNat * tb, x.2.toNat * ta)
theorem div_same {a g : Nat} (h : g ∣ a) : a / g * g = a := Nat.div_mul_cancel h
theorem UV_eq {ta tb : Nat} {x : Int × Int} (hg : 1 ≤ fG ta tb x) : le2 (hl ta tb x) (fU ta tb x, fV ta tb x) ∧ le2 (fU ta tb x, fV ta tb x) (hl ta tb x) ∧ Nat.gcd (fU ta tb x) (fV ta tb x) = 1 := by
  have d1 : fG ta tb x ∣ fHi ta tb x := Nat.gcd_dvd_right _ _
  have d2 : fG ta tb x ∣ fLo ta tb x := Nat.gcd_dvd_left _ _
  have e1 : fU ta tb x * fG ta tb x = fHi ta tb x := div_same d1
  have e2 : fV ta tb x * fG ta tb x = fLo ta tb x := div_same d2
  have e : fHi ta tb x * fV ta tb x = fU ta tb x * fLo ta tb x := by rw [← e1, ← e2, Nat.mul_assoc, Nat.mul_comm (fG ta tb x)]
  refine ⟨Nat.le_of_eq e, Nat.le_of_eq e.symm, ?_⟩
  unfold fU fV
  rw [Nat.gcd_comm]
  exact Nat.coprime_div_gcd_div_gcd (m := fLo ta tb x) (n := fHi ta tb x) hg
theorem fStep_mx {ta tb : Nat} (ha : 1 ≤ ta) (ha' : ta ≤ 1073741824) (hb : 1 ≤ tb) (hb' : tb ≤ 1073741824) {x : Int × Int} (h : pOk x) (h0 : pNo x) {s : Nat × Nat} {F : List (Nat × Nat)} (hm : Mx s F) (hc : Nat.gcd s.1 s.2 = 1) :
    Mx (fStep ta tb s x) (F ++ [hl ta tb x]) ∧ Nat.gcd (fStep ta tb s x).1 (fStep ta tb s x).2 = 1 := by
  obtain ⟨b1, b2, b3, b4, b5, c1, c2, c3, c4⟩ := f_bd ha ha' hb hb' h h0
  obtain ⟨e1, e2, e3⟩ := UV_eq b4
  have hp : pos2 (hl ta tb x) := ⟨Nat.le_trans b1 b2, b1⟩
  have hq : pos2 (fU ta tb x, fV ta tb x) := ⟨c1, c3⟩
  unfold fStep
  by_cases c : fB ta tb s x = true
  · rw [if_pos c]
    have c' : s.1 * fV ta tb x < fU ta tb x * s.2 := of_decide_eq_true c
    exact ⟨hm.take hq (le2_trans (g := (fU ta tb x, fV ta tb x)) hq.2 (Nat.le_of_lt c') e2) e1 e2 hp, e3⟩
  · rw [if_neg c]
    have c' : ¬ s.1 * fV ta tb x < fU ta tb x * s.2 := fun h => c (decide_eq_true h)
    exact ⟨hm.keep (le2_trans (g := (fU ta tb x, fV ta tb x)) hq.2 e1 (Nat.le_of_not_lt c')), hc⟩
theorem fold_mx {ta tb : Nat} (ha : 1 ≤ ta) (ha' : ta ≤ 1073741824) (hb : 1 ≤ tb) (hb' : tb ≤ 1073741824) : ∀ (L : List (Int × Int)) (s : Nat × Nat) (F : List (Nat × Nat)), (∀ x ∈ L, pOk x ∧ pNo x) → Mx s F → Nat.gcd s.1 s.2 = 1 →
    Mx (L.foldl (fStep ta tb) s) (F ++ L.map (hl ta tb)) ∧ Nat.gcd (L.foldl (fStep ta tb) s).1 (L.foldl (fStep ta tb) s).2 = 1
  | [], s, F, _, h, hc => by rw [List.map_nil, List.append_nil]; exact ⟨h, hc⟩
  | x :: L, s, F, h0, h, hc => by
    obtain ⟨h1, h2⟩ := fStep_mx ha ha' hb hb' (h0 x (by simp)).1 (h0 x (by simp)).2 h hc
    have := fold_mx ha ha' hb hb' L _ _ (fun y hy => h0 y (by simp [hy])) h1 h2
    rw [List.foldl_cons, List.map_cons]
    rw [List.append_assoc] at this
    exact this
theorem fFold_mx {ta tb : Nat} (ha : 1 ≤ ta) (ha' : ta ≤ 1073741824) (hb : 1 ≤ tb) (hb' : tb ≤ 1073741824) {L : List (Int × Int)} (h0 : ∀ x ∈ L, pOk x ∧ pNo x) : Mx (fFold ta tb L) (L.map (hl ta tb)) ∧ Nat.gcd (fFold ta tb L).1 (fFold ta tb L).2 = 1 := by
  have := fold_mx ha ha' hb hb' L (1, 1) [] h0 Mx.start rfl
  rw [List.nil_append] at this
  exact this
def two (ta tb : Nat) (x : Int × Int) : List (Nat × Nat) := [uv ta tb x, (uv ta tb x).swap]
theorem uv_bd {ta tb : Nat} (ha : 1 ≤ ta) (ha' : ta ≤ 1073741824) (hb : 1 ≤ tb) (hb' : tb ≤ 1073741824) {x : Int × Int} (h : pOk x) (h0 : pNo x) : sOk (uv ta tb x) := by
  obtain ⟨h1, h2, h3, h4⟩ := h
  obtain ⟨n1, n2⟩ := h0
  have m1 := p_mul (a := x.1.toNat) (t := tb) (by omega) (by omega) hb hb'
  have m2 := p_mul (a := x.2.toNat) (t := ta) (by omega) (by omega) ha ha'
  exact ⟨m1.1, m1.2, m2.1, m2.2⟩
theorem hl_uv (ta tb : Nat) (x : Int × Int) : hl ta tb x = uv ta tb x ∨ hl ta tb x = (uv ta tb x).swap := by
  unfold hl uv fHi fLo
  rcases Nat.le_total (x.1.toNat * tb) (x.2.toNat * ta) with c | c
  · right; rw [Nat.max_eq_right c, Nat.min_eq_left c]; rfl
  · left; rw [Nat.max_eq_left c, Nat.min_eq_right c]
theorem uv_hl (ta tb : Nat) (x : Int × Int) : le2 (uv ta tb x) (hl ta tb x) ∧ le2 (uv ta tb x).swap (hl ta tb x) := by
  unfold le2 hl uv fHi fLo Prod.swap
  dsimp only
  generalize x.1.toNat * tb = u
  generalize x.2.toNat * ta = v
  rcases Nat.le_total u v with c | c
  · rw [Nat.max_eq_right c, Nat.min_eq_left c]
    exact ⟨Nat.mul_le_mul c c, Nat.le_refl _⟩
  · rw [Nat.max_eq_left c, Nat.min_eq_right c]
    exact ⟨Nat.le_refl _, Nat.mul_le_mul c c⟩
end Go.Proofs.Ytfoolbcfpedhmaa.DistPure
end
section
namespace Go.Proofs.Ytfoolbcfpedhmaa.DistPure
open Go.RowKit Go.Proofs.Ytfoolbcfpedhmaa.PA Go.Proofs.YtfoolbcfpedhmaaW.PrintWords Go.Proofs.YtfoolbcfpedhmaaW.PrintLast Go.Proofs.YtfoolbcfpedhmaaW.PrintMore Go.Proofs.YtfoolbcfpedhmaaW.EvKit
set_option linter.unusedVariables false
set_option linter.unusedSimpArgs false
end Go.Proofs.Ytfoolbcfpedhmaa.DistPure
end
section
namespace Go.Proofs.Ytfoolbcfpedhmaa.PA
open Go.RowKit Go.Proofs.YtfoolbcfpedhmaaW.PrintWords Go.Proofs.YtfoolbcfpedhmaaW.PrintLast Go.Proofs.YtfoolbcfpedhmaaW.PrintMore
open Go.Proofs.YtfoolbcfpedhmaaW.EvKit
set_option linter.unusedVariables false
noncomputable def dist_Far.F (l0 : List S38) (l1 : List S38) : Option (Int × Int × Int) := lim (fun k => dist_Far.f k l0 l1)
theorem dist_Far.F_is (l0 : List S38) (l1 : List S38) : LimIs (fun k => dist_Far.f k l0 l1) (dist_Far.F l0 l1) := ⟨fun k => dist_Far.mono l0 l1 k, rfl⟩
set_option maxRecDepth 100000 in
theorem dist_Far.F_eq (l0 : List S38) (l1 : List S38) : dist_Far.F l0 l1 = (dist_wrongs.F [l0, l1]).bind fun e => if e = 0 then ((dist_total.F l0).bind fun ta => (dist_total.F l1).bind fun tb => if dGuard l0 l1 ta tb = true then some (farVal ta tb (pairsL l0 l1)) else none) else some (0, 0, e) := by
  refine LimIs.out (?_ : LimIs (fun k => (dist_wrongs.f k [l0, l1]).bind fun e => if e = 0 then ((dist_total.f k l0).bind fun ta => (dist_total.f k l1).bind fun tb => if dGuard l0 l1 ta tb = true then some (farVal ta tb (pairsL l0 l1)) else none) else some (0, 0, e)) _)
  repeat' first
    | (with_reducible exact dist_wrongs.F_is _)
    | (with_reducible exact dist_total.F_is _)
    | (with_reducible exact LimIs.const _)
    | (with_reducible refine LimIs.ite ?_ ?_)
    | (with_reducible refine LimIs.bind ?_ (fun _ => ?_))
    | exact dist_wrongs.F_is _
    | exact dist_total.F_is _
    | exact LimIs.const _
    | refine LimIs.ite ?_ ?_
    | refine LimIs.bind ?_ (fun _ => ?_)
end Go.Proofs.Ytfoolbcfpedhmaa.PA
end
section
namespace Go.Proofs.Ytfoolbcfpedhmaa.DistPure
set_option linter.unusedVariables false
set_option linter.unusedSimpArgs false
open Go.RowKit Go.Proofs.Ytfoolbcfpedhmaa.PA Go.Proofs.YtfoolbcfpedhmaaW.PrintWords Go.Proofs.YtfoolbcfpedhmaaW.PrintLast Go.Proofs.YtfoolbcfpedhmaaW.PrintMore Go.Proofs.YtfoolbcfpedhmaaW.EvKit
structure RD (d : List S38) : Prop where
  bd : Bd d
  wr : wrongP d = 0
theorem RD.right {d : List S38} (h : RD d) : Right d := right_of h.wr
theorem RD.pw {d : List S38} (h : RD d) : ∀ p ∈ d, 0 < p.f1 := (right_more h.wr).1
theorem RD.nn {d : List S38} (h : RD d) : ∀ p ∈ d, 0 ≤ p.f1 := fun p hp => Int.le_of_lt (h.pw p hp)
theorem RD.tD {d : List S38} (h : RD d) : dist_total.F d = some (totOf d) := totF d h.bd.len h.nn (by have := h.right.few; omega)
theorem RD.wbd {d : List S38} (h : RD d) (o : List Int) : 0 ≤ wOf d o ∧ wOf d o ≤ 1073741824 := by
  have := wOf_le h.nn o
  have := h.right.few
  omega
structure Two (a b : List S38) : Prop where
  a : RD a
  b : RD b
theorem Two.ok {a b : List S38} (h : Two a b) (o : List Int) : pOk (pw a b o) := by
  have h1 := h.a.wbd o
  have h2 := h.b.wbd o
  exact ⟨h1.1, h1.2, h2.1, h2.2⟩
theorem Two.t {a b : List S38} (h : Two a b) : ∃ ta tb : Nat, totOf a = (ta : Int) ∧ totOf b = (tb : Int) ∧ 1 ≤ ta ∧ ta ≤ 1073741824 ∧ 1 ≤ tb ∧ tb ≤ 1073741824 := by
  have h1 := h.a.right
  have h2 := h.b.right
  refine ⟨(totOf a).toNat, (totOf b).toNat, ?_⟩
  have := h1.pos; have := h1.few; have := h2.pos; have := h2.few
  omega
theorem Two.perm {a b : List S38} (h : Two a b) : (pairsL a b).Perm ((outsL a b).map (pw a b)) := pairs_perm' h.a.right.st h.b.right.st h.a.pw
theorem Two.pok {a b : List S38} (h : Two a b) : ∀ x ∈ pairsL a b, pOk x := fun x hx => by
  obtain ⟨o, _, rfl⟩ := List.mem_map.1 (h.perm.mem_iff.1 hx)
  exact h.ok o
def farP (a b : List S38) : Int × Int × Int := if wrongP a = 0 then (if wrongP b = 0 then farVal (totOf a) (totOf b) (pairsL a b) else (0, 0, wrongP b)) else (0, 0, wrongP a)
def wrongs2 (a b : List S38) : Int := if wrongP a = 0 then wrongP b else wrongP a
theorem wrongsF (a b : List S38) (ha : Bd a) (hb : Bd b) : dist_wrongs.F [a, b] = some (wrongs2 a b) := by
  unfold wrongs2
  rw [dist_wrongs.F_eq]
  have e0 : rd_L3 [a, b] 0 = a := rfl
  have e1 : rd_L3 [a, b] 1 = b := rfl
  have l2 : (([a, b].length : Nat) : Int) = 2 := rfl
  have x1 : wrap64 ((0 : Int) + 1) = 1 := by decide +kernel
  have x2 : wrap64 ((1 : Int) + 1) = 2 := by decide +kernel
  rw [l2, dist_wrongs.L0_eq, l2, if_pos (by decide), if_pos (by decide), if_pos (by decide), e0, wrongF a ha, Option.bind_some, x1]
  by_cases c : wrongP a = 0
  · rw [if_pos c, if_pos c, dist_wrongs.L0_eq, l2, if_pos (by decide), if_pos (by decide), if_pos (by decide), e1, wrongF b hb, Option.bind_some, x2]
    by_cases c2 : wrongP b = 0
    · rw [if_pos c2, dist_wrongs.L0_eq, if_neg (by decide), c2]
    · rw [if_neg c2]
  · rw [if_neg c, if_neg c]
theorem dSizeB {a : List S38} (h : Bd a) : dSize a = true := by
  have h1 := h.len
  unfold dSize
  rw [Bool.and_eq_true, decide_eq_true_eq, List.all_eq_true]
  exact ⟨by omega, fun p hp => by have := h.out p hp; exact decide_eq_true (by omega)⟩
theorem tIn_of {t : Int} (h : 1 ≤ t) (h2 : t ≤ 1073741824) : tIn t = true := by unfold tIn; simp [h, h2]
theorem xIn_of {x : Int × Int} (h : pOk x) : xIn x = true := by obtain ⟨h1, h2, h3, h4⟩ := h; unfold xIn; simp [h1, h2, h3, h4]
theorem farF (a b : List S38) (ha : Bd a) (hb : Bd b) : dist_Far.F a b = some (farP a b) := by
  rw [dist_Far.F_eq, wrongsF a b ha hb, Option.bind_some]
  unfold wrongs2 farP
  by_cases c : wrongP a = 0
  · rw [if_pos c, if_pos c]
    by_cases c2 : wrongP b = 0
    · have h : Two a b := ⟨⟨ha, c⟩, ⟨hb, c2⟩⟩
      have h1 := h.a.right
      have h2 := h.b.right
      have := h1.pos; have := h1.few; have := h2.pos; have := h2.few
      rw [if_pos c2, if_pos c2, h.a.tD, Option.bind_some, h.b.tD, Option.bind_some]
      rw [if_pos (by
        unfold dGuard
        rw [dSizeB ha, dSizeB hb, tIn_of (by omega) (by omega), tIn_of (by omega) (by omega)]
        simpa using fun x y hx => xIn_of (h.pok (x, y) hx))]
    · rw [if_neg c2, if_neg c2]
  · rw [if_neg c, if_neg c, if_neg c]
end Go.Proofs.Ytfoolbcfpedhmaa.DistPure
end
section
namespace Go.Proofs.Ytfoolbcfpedhmaa.DistPure
set_option linter.unusedVariables false
set_option linter.unusedSimpArgs false
open Go.RowKit Go.Proofs.Ytfoolbcfpedhmaa.PA Go.Proofs.YtfoolbcfpedhmaaW.PrintWords Go.Proofs.YtfoolbcfpedhmaaW.PrintLast Go.Proofs.YtfoolbcfpedhmaaW.PrintMore Go.Proofs.YtfoolbcfpedhmaaW.EvKit
structure FarOK (a b : List S38) (ta tb : Nat) (s : Nat × Nat) : Prop where
  two : Two a b
  ea : totOf a = (ta : Int)
  eb : totOf b = (tb : Int)
  a1 : 1 ≤ ta
  b1 : 1 ≤ tb
  a2 : ta ≤ 1073741824
  b2 : tb ≤ 1073741824
  no : ∀ x ∈ pairsL a b, pNo x
  eq : fFold ta tb (pairsL a b) = s
  mx : Mx s ((pairsL a b).map (hl ta tb))
  co : Nat.gcd s.1 s.2 = 1
theorem farOut_ok {s : Nat × Nat} (h : (farOut s).2.2 = 0) : farOut s = ((s.1 : Int), (s.2 : Int), 0) ∧ s.1 ≤ 1073741824 ∧ s.2 ≤ 1073741824 := by
  unfold farOut at *
  by_cases c : s.1 > 1073741824 ∨ s.2 > 1073741824
  · rw [if_pos c] at h; cases h
  · rw [if_neg c]; exact ⟨rfl, by omega, by omega⟩
theorem far_mk {a b : List S38} (ha : Bd a) (hb : Bd b) (c : wrongP a = 0) (c2 : wrongP b = 0) (hn : ∀ x ∈ pairsL a b, pNo x) : ∃ ta tb s, FarOK a b ta tb s ∧ farP a b = farOut s := by
  have h : Two a b := ⟨⟨ha, c⟩, ⟨hb, c2⟩⟩
  obtain ⟨ta, tb, ea, eb, a1, a2, b1, b2⟩ := h.t
  obtain ⟨m, co⟩ := fFold_mx a1 a2 b1 b2 (L := pairsL a b) (fun x hx => ⟨h.pok x hx, hn x hx⟩)
  refine ⟨ta, tb, _, ⟨h, ea, eb, a1, b1, a2, b2, hn, rfl, m, co⟩, ?_⟩
  unfold farP
  rw [if_pos c, if_pos c2, farVal_yes hn, ea, eb]
  rfl
theorem in_outs {a b : List S38} (o : List Int) (h : 0 < wOf a o ∨ 0 < wOf b o) : o ∈ outsL a b := by
  unfold outsL
  by_cases c : 0 < wOf a o
  · obtain ⟨q, hq, e⟩ := wOf_mem c
    exact List.mem_append.2 (.inl (List.mem_map.2 ⟨q, hq, e⟩))
  · have hb := h.resolve_left c
    obtain ⟨q, hq, e⟩ := wOf_mem hb
    by_cases c2 : wOf a o = 0
    · exact List.mem_append.2 (.inr (List.mem_map.2 ⟨q, List.mem_filter.2 ⟨hq, by rw [e]; exact decide_eq_true c2⟩, e⟩))
    · obtain ⟨p, hp, e2⟩ : ∃ p ∈ a, p.f0 = o := by
        refine Classical.byContradiction (fun hx => c2 (wOf_none a o (fun q hq e => hx ⟨q, hq, e⟩)))
      exact List.mem_append.2 (.inl (List.mem_map.2 ⟨p, hp, e2⟩))
theorem FarOK.at {a b : List S38} {ta tb : Nat} {s : Nat × Nat} (h : FarOK a b ta tb s) (o : List Int) (ho : 0 < wOf a o ∨ 0 < wOf b o) :
    0 < wOf a o ∧ 0 < wOf b o ∧ le2 (uv ta tb (pw a b o)) s ∧ le2 (uv ta tb (pw a b o)).swap s ∧ pos2 (uv ta tb (pw a b o)) := by
  have hm : pw a b o ∈ pairsL a b := h.two.perm.mem_iff.2 (List.mem_map.2 ⟨o, in_outs o ho, rfl⟩)
  have hn := h.no _ hm
  have hk := h.two.ok o
  have hu := uv_bd h.a1 h.a2 h.b1 h.b2 hk hn
  have hp : pos2 (uv ta tb (pw a b o)) := ⟨hu.1, hu.2.2.1⟩
  have hh : 1 ≤ (hl ta tb (pw a b o)).2 := by
    rcases hl_uv ta tb (pw a b o) with e | e
    · rw [e]; exact hp.2
    · rw [e]; exact hp.1
  have hub := h.mx.ub _ (List.mem_map.2 ⟨_, hm, rfl⟩)
  have h1 := h.two.a.wbd o
  have h2 := h.two.b.wbd o
  have n1 : ¬ wOf a o = 0 := hn.1
  have n2 : ¬ wOf b o = 0 := hn.2
  exact ⟨by omega, by omega, le2_trans hh (uv_hl ta tb _).1 hub, le2_trans hh (uv_hl ta tb _).2 hub, hp⟩
theorem FarOK.some {a b : List S38} {ta tb : Nat} {s : Nat × Nat} (h : FarOK a b ta tb s) : le2 s (1, 1) ∨ ∃ o, 0 < wOf a o ∧ 0 < wOf b o ∧ (le2 s (uv ta tb (pw a b o)) ∨ le2 s (uv ta tb (pw a b o)).swap) := by
  rcases h.mx.got with c | ⟨f, hf, c⟩
  · exact .inl c
  · obtain ⟨x, hx, rfl⟩ := List.mem_map.1 hf
    obtain ⟨o, ho, rfl⟩ := List.mem_map.1 (h.two.perm.mem_iff.1 hx)
    have hn := h.no _ hx
    have h1 := h.two.a.wbd o
    have h2 := h.two.b.wbd o
    have n1 : ¬ wOf a o = 0 := hn.1
    have n2 : ¬ wOf b o = 0 := hn.2
    refine .inr ⟨o, by omega, by omega, ?_⟩
    rcases hl_uv ta tb (pw a b o) with e | e
    · rw [e] at c; exact .inl c
    · rw [e] at c; exact .inr c
end Go.Proofs.Ytfoolbcfpedhmaa.DistPure
end
section
namespace Go.Proofs.Ytfoolbcfpedhmaa.DistPure
set_option linter.unusedVariables false
set_option linter.unusedSimpArgs false
open Go.RowKit Go.Proofs.Ytfoolbcfpedhmaa.PA Go.Proofs.YtfoolbcfpedhmaaW.PrintWords Go.Proofs.YtfoolbcfpedhmaaW.PrintLast Go.Proofs.YtfoolbcfpedhmaaW.PrintMore Go.Proofs.YtfoolbcfpedhmaaW.EvKit
theorem bd_right {d : List S38} (h : wrongP d = 0) : Bd d := by
  have hr := right_of h
  have hm := hr.much
  refine ⟨by omega, fun p hp => ?_⟩
  have h1 := (okP_iff.1 (List.all_eq_true.1 hr.ok p hp)).1
  unfold smallB at h1
  rw [Bool.and_eq_true, decide_eq_true_eq] at h1
  omega
def eS (K : List Int → Rat) : List S38 → Rat
  | [] => 0
  | p :: l => (p.f1 : Rat) * K p.f0 + eS K l
theorem eS_app (K : List Int → Rat) : ∀ a b : List S38, eS K (a ++ b) = eS K a + eS K b
  | [], b => by rw [List.nil_append, eS]; grind
  | p :: a, b => by rw [List.cons_append, eS, eS, eS_app K a b]; grind
theorem eS_one (K : List Int → Rat) (p : S38) : eS K [p] = (p.f1 : Rat) * K p.f0 := by rw [eS, eS]; grind
theorem eS_perm (K : List Int → Rat) {a b : List S38} (h : a.Perm b) : eS K a = eS K b := by
  induction h with
  | nil => rfl
  | cons x _ ih => rw [eS, eS, ih]
  | swap x y l => rw [eS, eS, eS, eS]; grind
  | trans _ _ h1 h2 => rw [h1, h2]
theorem eS_step (K : List Int → Rat) (d : List S38) (p : S38) : eS K (tStep d p) = eS K d + (p.f1 : Rat) * K p.f0 := by
  by_cases h : p.f1 = 0
  · rw [tStep_zero h, h]; grind
  · rcases List.eq_nil_or_concat d with e | ⟨d', q, e⟩
    · rw [e, tStep_nil h, eS_one, eS]; grind
    · rw [List.concat_eq_append] at e
      rw [e]
      by_cases c : q.f0 = p.f0
      · rw [tStep_same h c, eS_app, eS_app, eS_one, eS_one, Rat.intCast_add]
        dsimp only
        rw [c]; grind
      · have e2 : tStep (d' ++ [q]) p = d' ++ [q] ++ [p] := by
          unfold tStep
          rw [if_neg h, List.getLast?_concat]
          dsimp only
          rw [if_neg c]
        rw [e2, eS_app, eS_one]
theorem eS_fold (K : List Int → Rat) : ∀ (l d : List S38), eS K (l.foldl tStep d) = eS K d + eS K l
  | [], d => by rw [List.foldl_nil, eS]; grind
  | p :: l, d => by rw [List.foldl_cons, eS_fold K l, eS_step, eS]; grind
theorem eS_merge (K : List Int → Rat) (l : List S38) : eS K (tMerge (sortP l)) = eS K l := by
  unfold tMerge
  rw [eS_fold, eS_perm K (sortP_perm l), eS]; grind
theorem eS_div (K : List Int → Rat) (g : Nat) (hg : 0 < g) : ∀ (L : List S38), (∀ p ∈ L, 0 < p.f1 ∧ g ∣ p.f1.toNat) → eS K (L.map (fun p => (⟨p.f0, p.f1 / (g : Int)⟩ : S38))) * ((g : Int) : Rat) = eS K L
  | [], _ => by rw [List.map_nil, eS]; grind
  | p :: L, h => by
    obtain ⟨h1, h2⟩ := h p (by simp)
    obtain ⟨m, _, h4, h5⟩ := div_pos' h1 hg h2
    have ih := eS_div K g hg L (fun q hq => h q (by simp [hq]))
    have e : p.f1 = (m : Int) * (g : Int) := by rw [← Int.natCast_mul, Nat.mul_comm, ← h5]; omega
    have e2 : (p.f1 : Rat) = ((m : Int) : Rat) * ((g : Int) : Rat) := by rw [e, Rat.intCast_mul]
    rw [List.map_cons, eS, eS]
    dsimp only
    rw [h4, e2]
    grind
theorem eS_tot : ∀ (l : List S38), eS (fun _ => 1) l = ((totOf l : Int) : Rat)
  | [] => rfl
  | p :: l => by rw [eS, eS_tot l, totOf_cons, Rat.intCast_add]; grind
def eI (o : List Int) (x : List Int) : Rat := if x = o then 1 else 0
theorem eS_w (o : List Int) : ∀ (l : List S38), eS (eI o) l = ((wOf l o : Int) : Rat)
  | [] => rfl
  | p :: l => by
    rw [eS, eS_w o l, wOf_cons, Rat.intCast_add]
    unfold eI
    by_cases c : p.f0 = o
    · rw [if_pos c, if_pos c]; grind
    · rw [if_neg c, if_neg c, Rat.intCast_zero]; grind
theorem eS_congr {K K' : List Int → Rat} : ∀ {l : List S38}, (∀ p ∈ l, K p.f0 = K' p.f0) → eS K l = eS K' l
  | [], _ => rfl
  | p :: l, h => by rw [eS, eS, h p (by simp), eS_congr (fun q hq => h q (by simp [hq]))]
theorem eS_mul (K : List Int → Rat) (c : Rat) : ∀ (l : List S38), eS (fun x => c * K x) l = c * eS K l
  | [] => by rw [eS, eS]; grind
  | p :: l => by rw [eS, eS, eS_mul K c l]; grind
def eE (K : List Int → Rat) (d : List S38) : Rat := eS K d / ((totOf d : Int) : Rat)
theorem cast_ne {x : Int} (h : x ≠ 0) : (x : Rat) ≠ 0 := fun e => h (by exact_mod_cast e)
theorem make_E {l : List S38} (h : (makeP l).2 = 0) (K : List Int → Rat) : eE K (makeP l).1 = eE K l := by
  have h1 : ∃ g : Nat, 0 < g ∧ eS K (makeP l).1 * ((g : Int) : Rat) = eS K l ∧ eS (fun _ => 1) (makeP l).1 * ((g : Int) : Rat) = eS (fun _ => 1) l := by
    unfold makeP at h ⊢
    by_cases ho : l.all okP = true
    · rw [if_pos ho] at h ⊢
      have h0 : ∀ p ∈ l, 0 ≤ p.f1 := fun p hp => (all_ok ho p hp).1
      have hc := tidy_canon h0
      have hm := eS_merge K l
      have hm1 := eS_merge (fun _ => 1) l
      generalize tMerge (sortP l) = D at *
      unfold tDone at h ⊢
      by_cases e1 : D = []
      · rw [if_pos e1] at h; cases h
      · rw [if_neg e1] at h ⊢
        by_cases e2 : totOf D / (gOf D : Int) > 1073741824 ∨ D.length > 4096
        · rw [if_pos e2] at h; cases h
        · rw [if_neg e2]
          have hg := gOf_pos hc.pos e1
          exact ⟨gOf D, hg, (eS_div K (gOf D) hg D (fun p hp => ⟨hc.pos p hp, gOf_dvd hp⟩)).trans hm, (eS_div _ (gOf D) hg D (fun p hp => ⟨hc.pos p hp, gOf_dvd hp⟩)).trans hm1⟩
    · rw [if_neg ho] at h; cases h
  obtain ⟨g, hg, e1, e2⟩ := h1
  have hr := right_of (make_right' h).1
  have hp := hr.pos
  rw [eS_tot, eS_tot] at e2
  have hg' : ((g : Int) : Rat) ≠ 0 := cast_ne (by omega)
  have ht' : ((totOf (makeP l).1 : Int) : Rat) ≠ 0 := cast_ne (by omega)
  unfold eE
  rw [← e1, ← e2]
  grind
end Go.Proofs.Ytfoolbcfpedhmaa.DistPure
end
section
namespace Go.Proofs.Ytfoolbcfpedhmaa.DistPure
set_option linter.unusedVariables false
set_option linter.unusedSimpArgs false
open Go.RowKit Go.Proofs.Ytfoolbcfpedhmaa.PA Go.Proofs.YtfoolbcfpedhmaaW.PrintWords Go.Proofs.YtfoolbcfpedhmaaW.PrintLast Go.Proofs.YtfoolbcfpedhmaaW.PrintMore Go.Proofs.YtfoolbcfpedhmaaW.EvKit
end Go.Proofs.Ytfoolbcfpedhmaa.DistPure
end
section
namespace Go.Proofs.Ytfoolbcfpedhmaa.DistPure
set_option linter.unusedVariables false
set_option linter.unusedSimpArgs false
open Go.RowKit Go.Proofs.Ytfoolbcfpedhmaa.PA Go.Proofs.YtfoolbcfpedhmaaW.PrintWords Go.Proofs.YtfoolbcfpedhmaaW.PrintLast Go.Proofs.YtfoolbcfpedhmaaW.PrintMore Go.Proofs.YtfoolbcfpedhmaaW.EvKit
def numL (low : Int) (f : Nat → Nat) (n : Nat) : List S38 := (List.range n).map (fun (z : Nat) => (⟨[low + (z : Int)], ((f z : Nat) : Int)⟩ : S38))
theorem numL_succ (low : Int) (f : Nat → Nat) (n : Nat) : numL low f (n + 1) = numL low f n ++ [⟨[low + (n : Int)], ((f n : Nat) : Int)⟩] := by
  unfold numL; rw [List.range_succ, List.map_append]; rfl
theorem numL_len (low : Int) (f : Nat → Nat) (n : Nat) : (numL low f n).length = n := by unfold numL; simp
theorem numL_mem {low : Int} {f : Nat → Nat} {n : Nat} {p : S38} (h : p ∈ numL low f n) : ∃ z, z < n ∧ p = ⟨[low + (z : Int)], ((f z : Nat) : Int)⟩ := by
  obtain ⟨z, hz, rfl⟩ := List.mem_map.1 h
  exact ⟨z, List.mem_range.1 hz, rfl⟩
def sumN (f : Nat → Nat) : Nat → Nat
  | 0 => 0
  | n + 1 => sumN f n + f n
theorem numL_tot (low : Int) (f : Nat → Nat) : ∀ n, totOf (numL low f n) = ((sumN f n : Nat) : Int)
  | 0 => rfl
  | n + 1 => by
    have ih := numL_tot low f n
    rw [numL_succ]
    unfold totOf at *
    rw [List.map_append, isum_app, ih, sumN]
    simp [isum]
theorem numL_strict (low : Int) (f : Nat → Nat) (n : Nat) : Strict (numL low f n) := by
  unfold Strict numL
  rw [List.pairwise_map]
  refine List.pairwise_lt_range.imp (fun {a b} h => ?_)
  show cmpL [low + (a : Int)] [low + (b : Int)] < 0
  rw [cmpL, if_pos (by omega)]
  decide
theorem numL_ord {low : Int} {f : Nat → Nat} {n : Nat} (h0 : -1073741824 ≤ low) (h1 : low + (n : Int) ≤ 1073741825) (hn : 1 ≤ n) (hn2 : n ≤ 4096) (hf : ∀ z, z < n → 1 ≤ f z ∧ f z ≤ 1073741824) (ht : sumN f n ≤ 1073741824) : Ord (numL low f n) := by
  refine ⟨numL_strict low f n, ?_, ?_, ?_, by rw [numL_tot]; omega, by rw [numL_len]; omega⟩
  · intro p hp
    obtain ⟨z, hz, rfl⟩ := numL_mem hp
    have := hf z hz
    show (0 : Int) < (f z : Int)
    omega
  · rw [List.all_eq_true]
    intro p hp
    obtain ⟨z, hz, rfl⟩ := numL_mem hp
    have := hf z hz
    refine okP_iff.2 ⟨?_, ?_, ?_⟩
    · unfold smallB
      simp only [okN, List.length_cons, List.length_nil, List.all_cons, List.all_nil, Bool.and_true, Bool.and_eq_true, decide_eq_true_eq]
      omega
    · show (0 : Int) ≤ (f z : Int)
      omega
    · show (f z : Int) ≤ 1073741824
      omega
  · intro e
    have := congrArg List.length e
    rw [numL_len] at this
    simp at this
    omega
theorem numL_bd (low : Int) (f : Nat → Nat) (n : Nat) (hn : n ≤ 1048576) : Bd (numL low f n) := by
  refine ⟨by rw [numL_len]; exact hn, fun p hp => ?_⟩
  obtain ⟨z, _, rfl⟩ := numL_mem hp
  simp
end Go.Proofs.Ytfoolbcfpedhmaa.DistPure
end
section
namespace Go.Proofs.Ytfoolbcfpedhmaa.DistPure
set_option linter.unusedVariables false
set_option linter.unusedSimpArgs false
open Go.RowKit Go.Proofs.Ytfoolbcfpedhmaa.PA Go.Proofs.YtfoolbcfpedhmaaW.PrintWords Go.Proofs.YtfoolbcfpedhmaaW.PrintLast Go.Proofs.YtfoolbcfpedhmaaW.PrintMore Go.Proofs.YtfoolbcfpedhmaaW.EvKit
end Go.Proofs.Ytfoolbcfpedhmaa.DistPure
end
section
namespace Go.Proofs.Ytfoolbcfpedhmaa.RatioSpec
set_option linter.unusedVariables false
open Go.RowKit Go.Proofs.Ytfoolbcfpedhmaa.PA Go.Proofs.YtfoolbcfpedhmaaW.PrintWords Go.Proofs.YtfoolbcfpedhmaaW.PrintLast Go.Proofs.YtfoolbcfpedhmaaW.PrintMore Go.Proofs.YtfoolbcfpedhmaaW.EvKit
theorem gcd_ev : ∀ (n : Nat) (a b : Nat), b ≤ n → Ev (fun k => ratio_gcd.f k (a : Int) (b : Int)) ((Nat.gcd a b : Nat) : Int) := by
  intro n
  induction n with
  | zero =>
    intro a b hb
    obtain rfl : b = 0 := by omega
    refine Ev.step (fun k => ratio_gcd.l0.eq_2 _ _ k) (Ev.pos rfl ?_)
    rw [Nat.gcd_zero_right]
    exact Ev.ret _
  | succ n ih =>
    intro a b hb
    by_cases h0 : b = 0
    · subst h0
      refine Ev.step (fun k => ratio_gcd.l0.eq_2 _ _ k) (Ev.pos rfl ?_)
      rw [Nat.gcd_zero_right]
      exact Ev.ret _
    · refine Ev.step (fun k => ratio_gcd.l0.eq_2 _ _ k) (Ev.neg (by omega) ?_)
      have hlt := Nat.mod_lt a (show b > 0 by omega)
      have h := ih b (a % b) (by omega)
      have e : Int.tmod (a : Int) (b : Int) = ((a % b : Nat) : Int) := by
        rw [Int.tmod_eq_emod_of_nonneg (by omega)]; rfl
      rw [e, Nat.gcd_comm a b, Nat.gcd_rec b a, Nat.gcd_comm]
      exact h
def rightS (u d : Int) : Bool := decide (0 ≤ u ∧ 1 ≤ d ∧ u ≤ 1073741824 ∧ d ≤ 1073741824 ∧ Int.gcd u d = 1)
theorem gcd_evI {u d : Int} (hu : 0 ≤ u) (hd : 0 ≤ d) : Ev (fun k => ratio_gcd.f k u d) ((Int.gcd u d : Nat) : Int) := by
  obtain ⟨a, rfl⟩ := Int.eq_ofNat_of_zero_le hu
  obtain ⟨b, rfl⟩ := Int.eq_ofNat_of_zero_le hd
  exact gcd_ev b a b (Nat.le_refl _)
theorem right_g {f : Nat → Option Int} {u d : Int} (hf : 0 ≤ u → 1 ≤ d → Ev f ((Int.gcd u d : Nat) : Int)) :
    Ev (fun k => if u ≥ 0 then (if d ≥ 1 then (if u ≤ 1073741824 then (if d ≤ 1073741824 then ((f k).bind fun t => (some (t == 1))) else (some false)) else (some false)) else (some false)) else (some false)) (rightS u d) := by
  unfold rightS
  by_cases h0 : u ≥ 0
  · by_cases h1 : d ≥ 1
    · by_cases h2 : u ≤ 1073741824
      · by_cases h3 : d ≤ 1073741824
        · refine Ev.pos h0 (Ev.pos h1 (Ev.pos h2 (Ev.pos h3 (Ev.bind (hf h0 h1) (Ev.eq (Ev.ret _) ?_)))))
          rw [Bool.eq_iff_iff]
          simp [h2, h3]
          omega
        · exact Ev.pos h0 (Ev.pos h1 (Ev.pos h2 (Ev.neg h3 (Ev.eq (Ev.ret _) (by symm; simp; omega)))))
      · exact Ev.pos h0 (Ev.pos h1 (Ev.neg h2 (Ev.eq (Ev.ret _) (by symm; simp; omega))))
    · exact Ev.pos h0 (Ev.neg h1 (Ev.eq (Ev.ret _) (by symm; simp; omega)))
  · exact Ev.neg h0 (Ev.eq (Ev.ret _) (by symm; simp; omega))
theorem right_ev (u d : Int) : Ev (fun k => ratio_Right.f k u d) (rightS u d) := right_g (fun h0 h1 => gcd_evI h0 (by omega))
theorem rightS_iff {u d : Int} : rightS u d = true ↔ 0 ≤ u ∧ 1 ≤ d ∧ u ≤ 1073741824 ∧ d ≤ 1073741824 ∧ Int.gcd u d = 1 := by simp [rightS]
end Go.Proofs.Ytfoolbcfpedhmaa.RatioSpec
end
section
namespace Go.Proofs.Ytfoolbcfpedhmaa.DistPure
set_option linter.unusedVariables false
set_option linter.unusedSimpArgs false
open Go.RowKit Go.Proofs.Ytfoolbcfpedhmaa.PA Go.Proofs.YtfoolbcfpedhmaaW.PrintWords Go.Proofs.YtfoolbcfpedhmaaW.PrintLast Go.Proofs.YtfoolbcfpedhmaaW.PrintMore Go.Proofs.YtfoolbcfpedhmaaW.EvKit
def rS (u d : Int) : Bool := RatioSpec.rightS u d
def lossP (u d : Int) : Int := if rS u d = true then (if u < d then 3 else 0) else 2
theorem loss1F (u d : Int) : noise_loss.F u d = some (lossP u d) := by
  have h1 : ratio_Right.F u d = some (RatioSpec.rightS u d) := (ratio_Right.F_is u d).of_ev (RatioSpec.right_ev u d)
  rw [noise_loss.F_eq, h1, Option.bind_some]
  unfold lossP rS
  split <;> (try split) <;> rfl
theorem loss_ok {u d : Int} (h : lossP u d = 0) : ∃ a b : Nat, u = (a : Int) ∧ d = (b : Int) ∧ 1 ≤ b ∧ b ≤ a ∧ a ≤ 1073741824 ∧ Nat.gcd a b = 1 := by
  unfold lossP rS at h
  split at h
  · rename_i hr
    obtain ⟨h1, h2, h3, h4, h5⟩ := RatioSpec.rightS_iff.1 hr
    split at h
    · cases h
    · obtain ⟨a, rfl⟩ := Int.eq_ofNat_of_zero_le h1
      obtain ⟨b, rfl⟩ := Int.eq_ofNat_of_zero_le (show 0 ≤ d by omega)
      exact ⟨a, b, rfl, rfl, by omega, by omega, by omega, h5⟩
  · cases h
def dst (z t : Nat) : Nat := (z - t) + (t - z)
structure Ok (u d reach : Nat) : Prop where
  d1 : 1 ≤ d
  du : d ≤ u
  u2 : u ≤ 1073741824
  r : reach ≤ 64
  p : u ^ reach ≤ 1073741824
  q : u ^ reach * (u + d) ≤ 1073741824
theorem Ok.pw {u d reach : Nat} (h : Ok u d reach) {k : Nat} (hk : k ≤ reach) : d ^ k ≤ 1073741824 ∧ u ^ (reach - k) ≤ 1073741824 ∧ d ^ k * u ^ (reach - k) ≤ u ^ reach := by
  have hu : 1 ≤ u := Nat.le_trans h.d1 h.du
  have h1 : d ^ k ≤ u ^ k := Nat.pow_le_pow_left h.du k
  have h2 : u ^ k ≤ u ^ reach := Nat.pow_le_pow_right hu hk
  have h3 : u ^ (reach - k) ≤ u ^ reach := Nat.pow_le_pow_right hu (by omega)
  have h4 : u ^ k * u ^ (reach - k) = u ^ reach := by rw [← Nat.pow_add]; congr 1; omega
  have h5 : d ^ k * u ^ (reach - k) ≤ u ^ k * u ^ (reach - k) := Nat.mul_le_mul_right _ h1
  have := h.p
  exact ⟨by omega, by omega, by omega⟩
theorem Ok.wb {u d reach : Nat} (h : Ok u d reach) {k f : Nat} (hk : k ≤ reach) (hf : f ≤ u) : d ^ k * u ^ (reach - k) * f ≤ 1073741824 := by
  have h1 := (h.pw hk).2.2
  have h2 : d ^ k * u ^ (reach - k) * f ≤ u ^ reach * (u + d) := Nat.mul_le_mul h1 (by omega)
  have := h.q
  omega
end Go.Proofs.Ytfoolbcfpedhmaa.DistPure
end
section
namespace Go.Proofs.Ytfoolbcfpedhmaa.DistPure
set_option linter.unusedVariables false
set_option linter.unusedSimpArgs false
open Go.RowKit Go.Proofs.Ytfoolbcfpedhmaa.PA Go.Proofs.YtfoolbcfpedhmaaW.PrintWords Go.Proofs.YtfoolbcfpedhmaaW.PrintLast Go.Proofs.YtfoolbcfpedhmaaW.PrintMore Go.Proofs.YtfoolbcfpedhmaaW.EvKit
def sayW (u d truth z : Nat) : Nat := if z = truth then u else d
theorem say_loop (u d truth many : Nat) (hm : many ≤ 4096) (ht : truth < many) (W : List Int) (hW : W = (List.replicate many (d : Int)).set truth (u : Int)) : ∀ (m i : Nat), i + m = many →
    noise_Respond.L0 (numL 0 (sayW u d truth) i) W (many : Int) (i : Int) = some (makeP (numL 0 (sayW u d truth) many)) := by
  have hl : W.length = many := by rw [hW]; simp
  intro m
  induction m with
  | zero =>
    intro i hi
    obtain rfl : i = many := by omega
    rw [noise_Respond.L0_eq, if_neg (by omega), makeF1 _ (numL_bd 0 _ i (by omega)), Option.bind_some]
  | succ m ih =>
    intro i hi
    have hlen := numL_len 0 (sayW u d truth) i
    have hrd : rd W (i : Int) = ((sayW u d truth i : Nat) : Int) := by
      unfold sayW
      rw [rd_nat, hW, List.getD_eq_getElem?_getD, List.getElem?_set]
      by_cases c : truth = i
      · rw [if_pos c, if_pos (by simpa using ht), if_pos c.symm]; rfl
      · rw [if_neg c, if_neg (fun h => c h.symm), List.getElem?_replicate, if_pos (by omega)]; rfl
    have hs := numL_succ 0 (sayW u d truth) i
    rw [Int.zero_add] at hs
    rw [noise_Respond.L0_eq, if_pos (by omega), if_pos (by omega), if_pos (by omega), if_pos (by omega), hrd, w1 (by omega), ← hs]
    exact ih (i + 1) (by omega)
inductive SayForm (u d many : Int) : Prop
  | bad (h : ∀ truth, ∃ e, e ≠ 0 ∧ noise_Respond.F u d many truth = some ([], e)) (hb : ¬ (lossP u d = 0 ∧ 1 ≤ many ∧ many ≤ 4096 ∧ u + (many - 1) * d ≤ 1073741824))
  | good (a c m : Nat) (hu : u = a) (hd : d = c) (hm : many = m) (c1 : 1 ≤ c) (ca : c ≤ a) (a2 : a ≤ 1073741824) (hco : Nat.gcd a c = 1) (m1 : 1 ≤ m) (m2 : m ≤ 4096) (hs : a + (m - 1) * c ≤ 1073741824)
      (hout : ∀ truth, truth < 0 ∨ truth ≥ many → noise_Respond.F u d many truth = some ([], 3))
      (hin : ∀ t : Nat, t < m → noise_Respond.F u d many (t : Int) = some (makeP (numL 0 (sayW a c t) m)))
theorem say_form (u d many : Int) : SayForm u d many := by
  have e1 := loss1F u d
  by_cases c : lossP u d = 0
  · have bad : ∀ truth, noise_Respond.J0 many truth true u d = some ([], 3) := fun truth => by rw [noise_Respond.J0_eq, if_pos rfl]
    by_cases c1 : many < 1
    · exact .bad (fun truth => ⟨3, by decide, by rw [noise_Respond.F_eq, e1, Option.bind_some, if_pos c, if_pos c1, bad]⟩) (fun h => by omega)
    by_cases c2 : many > 4096
    · exact .bad (fun truth => ⟨3, by decide, by rw [noise_Respond.F_eq, e1, Option.bind_some, if_pos c, if_neg c1, if_pos c2, bad]⟩) (fun h => by omega)
    have go : ∀ truth, noise_Respond.F u d many truth = (if truth < 0 then noise_Respond.J0 many truth true u d else noise_Respond.J0 many truth (decide (truth ≥ many)) u d) := fun truth => by
      rw [noise_Respond.F_eq, e1, Option.bind_some, if_pos c, if_neg c1, if_neg c2]
    have hout : ∀ truth, truth < 0 ∨ truth ≥ many → noise_Respond.F u d many truth = some ([], 3) := fun truth h => by
      rw [go]
      by_cases c3 : truth < 0
      · rw [if_pos c3, bad]
      · rw [if_neg c3, decide_eq_true (show truth ≥ many by omega), bad]
    obtain ⟨a, k, rfl, rfl, k1, ka, a2, hg⟩ := loss_ok c
    obtain ⟨m, rfl⟩ := Int.eq_ofNat_of_zero_le (show 0 ≤ many by omega)
    have hmk : (m - 1) * k ≤ 4095 * 1073741824 := Nat.mul_le_mul (by omega) (by omega)
    have ew : wrap64 ((a : Int) + wrap64 (wrap64 ((m : Int) - 1) * (k : Int))) = ((a + (m - 1) * k : Nat) : Int) := by
      have q1 : (m : Int) - 1 = ((m - 1 : Nat) : Int) := by omega
      rw [wrap64_of (x := (m : Int) - 1) (by omega) (by omega), q1, ← Int.natCast_mul, wrap64_of (x := (((m - 1) * k : Nat) : Int)) (by omega) (by omega), wrap64_of (by omega) (by omega)]
      omega
    have inn : ∀ t : Nat, t < m → noise_Respond.F (a : Int) (k : Int) (m : Int) (t : Int) = noise_Respond.J0 (m : Int) (t : Int) false (a : Int) (k : Int) := fun t ht => by
      rw [go, if_neg (by omega), decide_eq_false (by omega)]
    by_cases c4 : a + (m - 1) * k > 1073741824
    · have hb : ¬ (lossP (a : Int) (k : Int) = 0 ∧ 1 ≤ (m : Int) ∧ (m : Int) ≤ 4096 ∧ (a : Int) + ((m : Int) - 1) * (k : Int) ≤ 1073741824) := fun h => by
        have h5 := h.2.2.2
        have q1 : (m : Int) - 1 = ((m - 1 : Nat) : Int) := by omega
        rw [q1, ← Int.natCast_mul] at h5
        omega
      refine .bad (fun truth => ?_) hb
      by_cases c5 : truth < 0 ∨ truth ≥ (m : Int)
      · exact ⟨3, by decide, hout truth c5⟩
      · obtain ⟨t, rfl⟩ := Int.eq_ofNat_of_zero_le (show 0 ≤ truth by omega)
        refine ⟨4, by decide, ?_⟩
        rw [inn t (by omega), noise_Respond.J0_eq, if_neg (by decide), ew, if_pos (by omega)]
    · refine .good a k m rfl rfl rfl k1 ka a2 hg (by omega) (by omega) (by omega) hout (fun t ht => ?_)
      have e : slices_Repeat_int_int.f ([(k : Int)] : List Int) (m : Int) = some (List.replicate m (k : Int)) := by
        unfold slices_Repeat_int_int.f
        rw [if_pos ⟨rfl, by omega, by omega⟩, Int.toNat_natCast]; rfl
      have hl : (List.replicate m (k : Int)).length = m := by simp
      have hl2 : ((List.replicate m (k : Int)).set t (a : Int)).length = m := by simp
      rw [inn t ht, noise_Respond.J0_eq, if_neg (by decide), ew, if_neg (by omega), e, Option.bind_some, if_pos (by omega), hl, if_pos (by omega), Int.toNat_natCast]
      exact say_loop a k t m (by omega) ht _ rfl m 0 (by omega)
  · refine .bad (fun truth => ⟨lossP u d, c, ?_⟩) (fun h => c h.1)
    rw [noise_Respond.F_eq, e1, Option.bind_some, if_neg c]
theorem say_sum (u d t : Nat) : ∀ n, (n ≤ t → sumN (sayW u d t) n = n * d) ∧ (t < n → sumN (sayW u d t) n = u + (n - 1) * d)
  | 0 => ⟨fun _ => by simp [sumN], fun h => by omega⟩
  | n + 1 => by
    obtain ⟨h1, h2⟩ := say_sum u d t n
    constructor
    · intro h
      rw [sumN, h1 (by omega)]
      unfold sayW
      rw [if_neg (by omega), Nat.succ_mul]
    · intro h
      by_cases c : n = t
      · rw [sumN, h1 (by omega)]
        unfold sayW
        rw [if_pos c, Nat.add_sub_cancel, Nat.add_comm]
      · rw [sumN, h2 (by omega)]
        unfold sayW
        rw [if_neg c, Nat.add_sub_cancel]
        obtain ⟨j, rfl⟩ : ∃ j, n = j + 1 := ⟨n - 1, by omega⟩
        rw [Nat.add_sub_cancel, Nat.succ_mul]
        omega
end Go.Proofs.Ytfoolbcfpedhmaa.DistPure
end
section
namespace Go.Proofs.Ytfoolbcfpedhmaa.DistPure
set_option linter.unusedVariables false
set_option linter.unusedSimpArgs false
open Go.RowKit Go.Proofs.Ytfoolbcfpedhmaa.PA Go.Proofs.YtfoolbcfpedhmaaW.PrintWords Go.Proofs.YtfoolbcfpedhmaaW.PrintLast Go.Proofs.YtfoolbcfpedhmaaW.PrintMore Go.Proofs.YtfoolbcfpedhmaaW.EvKit
theorem say_zero {u d many : Int} {t : Int} (a c m : Nat) (hu : u = a) (hd : d = c) (hm : many = m) (c1 : 1 ≤ c) (ca : c ≤ a) (a2 : a ≤ 1073741824) (m1 : 1 ≤ m) (m2 : m ≤ 4096) (hs : a + (m - 1) * c ≤ 1073741824) {k : Nat} (hk : k < m) : (makeP (numL 0 (sayW a c k) m)).2 = 0 := by
  have h := (say_sum a c k m).2 hk
  have ho : Ord (numL 0 (sayW a c k) m) := numL_ord (by omega) (by omega) m1 m2 (fun z hz => by unfold sayW; split <;> omega) (by omega)
  rw [ho.make]
inductive PeopleForm (u d kinds : Int) (T : List Int) : Prop
  | bad (e : Int) (h : e ≠ 0) (hF : ∃ x, crowd_people.F u d kinds T = some (x, e))
  | good (a c m : Nat) (hu : u = a) (hd : d = c) (hm : kinds = m) (c1 : 1 ≤ c) (ca : c ≤ a) (a2 : a ≤ 1073741824) (hco : Nat.gcd a c = 1) (m1 : 1 ≤ m) (m2 : m ≤ 8) (hs : a + (m - 1) * c ≤ 1073741824) (hl : T.length ≤ 12)
      (hT : ∀ t ∈ T, 0 ≤ t ∧ t < (m : Int)) (hp : (a + (m - 1) * c) ^ T.length ≤ 1073741824) (hR : ∃ r, noise_Respond.F u d kinds 0 = some (r, 0)) (hF : crowd_people.F u d kinds T = some (((a + (m - 1) * c : Nat) : Int), 0))
theorem pow_loop (x n : Nat) (hx : 1 ≤ x) (hx2 : x ≤ 1073741824) (hn : n ≤ 12) : ∀ (m i : Nat), i + m = n → x ^ i ≤ 1073741824 →
    crowd_people.L1 (x : Int) ((x ^ i : Nat) : Int) (n : Int) (i : Int) = if x ^ n ≤ 1073741824 then some ((x : Int), 0) else some (0, 4) := by
  intro m
  induction m with
  | zero =>
    intro i hi h
    obtain rfl : i = n := by omega
    rw [crowd_people.L1_eq, if_neg (by omega), if_pos h]
  | succ m ih =>
    intro i hi h
    have hb : x ^ i * x ≤ 1073741824 * 1073741824 := Nat.mul_le_mul h hx2
    have e : wrap64 (((x ^ i : Nat) : Int) * (x : Int)) = ((x ^ (i + 1) : Nat) : Int) := by
      rw [← Int.natCast_mul, ← Nat.pow_succ, wrap64_of (by omega) (by rw [Nat.pow_succ]; omega)]
    rw [crowd_people.L1_eq, if_pos (by omega), e]
    by_cases c : x ^ (i + 1) ≤ 1073741824
    · rw [if_neg (by omega), w1 (by omega)]
      exact ih (i + 1) (by omega) c
    · have h2 : x ^ (i + 1) ≤ x ^ n := Nat.pow_le_pow_right hx (by omega)
      rw [if_pos (by omega), if_neg (by omega)]
theorem people_loop {u d kinds : Int} {T : List Int} (B : List Int) (hB : B.length ≤ 1048576) (f : SayForm u d kinds) : ∀ (m i : Nat), i + m = B.length → ((∃ e, e ≠ 0 ∧ crowd_people.L0 kinds T B (B.length : Int) (i : Int) u d = some (0, e)) ∨
    ((∀ t ∈ B.drop i, ∃ r, noise_Respond.F u d kinds t = some (r, 0)) ∧ crowd_people.L0 kinds T B (B.length : Int) (i : Int) u d = crowd_people.L1 (wrap64 (u + (wrap64 ((wrap64 (kinds - 1)) * d)))) 1 (T.length : Int) 0)) := by
  intro m
  induction m with
  | zero =>
    intro i hi
    right
    rw [List.drop_of_length_le (by omega), crowd_people.L0_eq, if_neg (by omega)]
    exact ⟨fun t ht => (by cases ht), rfl⟩
  | succ m ih =>
    intro i hi
    have hx : i < B.length := by omega
    have hr : ∃ r e, noise_Respond.F u d kinds B[i] = some (r, e) := by
      cases f with
      | bad h _ => obtain ⟨e, _, h⟩ := h B[i]; exact ⟨_, _, h⟩
      | good a c m hu hd hm c1 ca a2 hco m1 m2 hs hout hin =>
        by_cases c5 : B[i] < 0 ∨ B[i] ≥ kinds
        · exact ⟨_, _, hout _ c5⟩
        · obtain ⟨t, ht⟩ := Int.eq_ofNat_of_zero_le (show 0 ≤ B[i] by omega)
          rw [ht]
          exact ⟨_, _, hin t (by omega)⟩
    obtain ⟨r, e, hr⟩ := hr
    rw [crowd_people.L0_eq, if_pos (by omega), if_pos (by omega), if_pos (by omega), rdAt hx, hr, Option.bind_some]
    by_cases c : e = 0
    · rw [if_pos c, w1 (by omega)]
      rcases ih (i + 1) (by omega) with h | ⟨h1, h2⟩
      · exact .inl h
      · refine .inr ⟨fun t ht => ?_, h2⟩
        rw [List.drop_eq_getElem_cons hx] at ht
        rcases List.mem_cons.1 ht with h3 | h3
        · rw [h3, hr, c]; exact ⟨r, rfl⟩
        · exact h1 t h3
    · rw [if_neg c]
      exact .inl ⟨e, c, rfl⟩
theorem people_form (u d kinds : Int) (T : List Int) : PeopleForm u d kinds T := by
  have j3 : crowd_people.J0 kinds T true u d = some (0, 3) := by rw [crowd_people.J0_eq, if_pos rfl]
  by_cases k1 : kinds < 1
  · exact .bad 3 (by decide) ⟨0, by rw [crowd_people.F_eq, if_pos k1, j3]⟩
  by_cases k2 : kinds > 8
  · exact .bad 3 (by decide) ⟨0, by rw [crowd_people.F_eq, if_neg k1, decide_eq_true k2, j3]⟩
  have hF : crowd_people.F u d kinds T = crowd_people.J0 kinds T false u d := by rw [crowd_people.F_eq, if_neg k1, decide_eq_false k2]
  by_cases k3 : (T.length : Int) > 12
  · exact .bad 5 (by decide) ⟨0, by rw [hF, crowd_people.J0_eq, if_neg (by decide), if_pos k3]⟩
  have hF2 : crowd_people.F u d kinds T = crowd_people.L0 kinds T ([0] ++ T) (([0] ++ T).length : Int) 0 u d := by
    rw [hF, crowd_people.J0_eq, if_neg (by decide), if_neg k3, Option.bind_some, if_pos (by rw [List.length_singleton]; omega), Option.bind_some]
  have f := say_form u d kinds
  have hl : ([0] ++ T).length = T.length + 1 := by rw [List.length_append, List.length_singleton]; omega
  rcases people_loop (T := T) ([0] ++ T) (by omega) f _ 0 (Nat.zero_add _) with ⟨e, he, h⟩ | ⟨h1, h2⟩
  · exact .bad e he ⟨0, hF2.trans h⟩
  · cases f with
    | bad h _ =>
      obtain ⟨e, he, h⟩ := h 0
      obtain ⟨r, h3⟩ := h1 0 (by simp)
      rw [h] at h3
      simp only [Option.some.injEq, Prod.mk.injEq] at h3
      exact absurd h3.2 he
    | good a c m hu hd hm c1 ca a2 hco m1 m2 hs hout hin =>
      have hin' : ∀ t ∈ T, 0 ≤ t ∧ t < (m : Int) := fun t ht => by
        obtain ⟨r, h3⟩ := h1 t (by rw [List.drop_zero]; simp [ht])
        by_cases c5 : t < 0 ∨ t ≥ kinds
        · rw [hout t c5] at h3
          simp only [Option.some.injEq, Prod.mk.injEq] at h3
          exact absurd h3.2 (by decide)
        · omega
      have hmc : (m - 1) * c ≤ 1073741824 := by omega
      have e1 : wrap64 (u + (wrap64 ((wrap64 (kinds - 1)) * d))) = ((a + (m - 1) * c : Nat) : Int) := by
        have q1 : (m : Int) - 1 = ((m - 1 : Nat) : Int) := by omega
        rw [hu, hd, hm, wrap64_of (x := (m : Int) - 1) (by omega) (by omega), q1, ← Int.natCast_mul, wrap64_of (x := (((m - 1) * c : Nat) : Int)) (by omega) (by omega), wrap64_of (by omega) (by omega)]
        omega
      have hp := pow_loop (a + (m - 1) * c) T.length (by omega) hs (by omega) T.length 0 (Nat.zero_add _) (by simp)
      rw [Nat.pow_zero] at hp
      rw [e1] at h2
      have h4 := (hF2.trans h2).trans hp
      by_cases c6 : (a + (m - 1) * c) ^ T.length ≤ 1073741824
      · rw [if_pos c6] at h4
        exact .good a c m hu hd hm c1 ca a2 hco m1 (by omega) hs (by omega) hin' c6 (h1 0 (by simp)) h4
      · rw [if_neg c6] at h4
        exact .bad 4 (by decide) ⟨0, h4⟩
def inc (x : List Int) (k : Nat) : List Int := x.set k (x.getD k 0 + 1)
def rowC (a c t m : Nat) (p : S38) : List S38 := (List.range m).map (fun (k : Nat) => (⟨inc p.f0 k, p.f1 * ((sayW a c t k : Nat) : Int)⟩ : S38))
def stepL (a c m t : Nat) (H : List S38) : List S38 := H.flatMap (rowC a c t m)
def gath (l : List S38) : List S38 := tMerge (sortP l)
def shuf (a c m : Nat) : List Nat → List S38 → List S38
  | [], H => H
  | t :: T, H => shuf a c m T (gath (stepL a c m t H))
def kS (F : Nat → Rat) : Nat → Rat
  | 0 => 0
  | n + 1 => kS F n + F n
def opT (a c m t : Nat) (K : List Int → Rat) (x : List Int) : Rat := kS (fun k => (((sayW a c t k : Nat) : Int) : Rat) * K (inc x k)) m
theorem kS_congr {F G : Nat → Rat} : ∀ {n : Nat}, (∀ k, k < n → F k = G k) → kS F n = kS G n
  | 0, _ => rfl
  | n + 1, h => by rw [kS, kS, kS_congr (fun k hk => h k (by omega)), h n (by omega)]
theorem kS_le {F G : Nat → Rat} : ∀ {n : Nat}, (∀ k, k < n → F k ≤ G k) → kS F n ≤ kS G n
  | 0, _ => by rw [kS, kS]; grind
  | n + 1, h => by
    have h1 := kS_le (n := n) (fun k hk => h k (by omega))
    have h2 := h n (by omega)
    rw [kS, kS]; grind
theorem kS_mul (F : Nat → Rat) (x : Rat) : ∀ n, kS (fun k => x * F k) n = x * kS F n
  | 0 => by rw [kS, kS]; grind
  | n + 1 => by rw [kS, kS, kS_mul F x n]; grind
theorem kS_sumN (f : Nat → Nat) : ∀ n, kS (fun k => (((f k : Nat) : Int) : Rat)) n = (((sumN f n : Nat) : Int) : Rat)
  | 0 => rfl
  | n + 1 => by rw [kS, kS_sumN f n, sumN, Int.natCast_add, Rat.intCast_add]
theorem rowC_S (K : List Int → Rat) (a c t : Nat) (p : S38) : ∀ m, eS K (rowC a c t m p) = (p.f1 : Rat) * opT a c m t K p.f0
  | 0 => by
    unfold rowC opT
    rw [List.range_zero, List.map_nil, eS, kS]; grind
  | m + 1 => by
    have ih := rowC_S K a c t p m
    unfold rowC opT at ih ⊢
    rw [List.range_succ, List.map_append, eS_app, ih, List.map_cons, List.map_nil, eS_one, kS]
    dsimp only
    rw [Rat.intCast_mul]; grind
theorem stepL_S (K : List Int → Rat) (a c m t : Nat) : ∀ H : List S38, eS K (stepL a c m t H) = eS (opT a c m t K) H
  | [] => rfl
  | p :: H => by
    have ih := stepL_S K a c m t H
    unfold stepL at ih ⊢
    rw [List.flatMap_cons, eS_app, rowC_S, ih, eS]
theorem shuf_S (K : List Int → Rat) (a c m : Nat) : ∀ (T : List Nat) (H : List S38), eS K (shuf a c m T H) = eS (T.foldr (fun t K => opT a c m t K) K) H
  | [], H => rfl
  | t :: T, H => by
    rw [shuf, shuf_S K a c m T, List.foldr_cons]
    unfold gath
    rw [eS_merge, stepL_S]
theorem opT_one {a c m t : Nat} (ht : t < m) (v : Rat) (x : List Int) : opT a c m t (fun _ => v) x = (((a + (m - 1) * c : Nat) : Int) : Rat) * v := by
  unfold opT
  have h := (say_sum a c t m).2 ht
  have e : kS (fun k => (((sayW a c t k : Nat) : Int) : Rat) * v) m = kS (fun k => v * (((sayW a c t k : Nat) : Int) : Rat)) m := kS_congr (fun k _ => Rat.mul_comm _ _)
  rw [e, kS_mul, kS_sumN, h, Rat.mul_comm]
structure HI (m B : Nat) (H : List S38) : Prop where
  len : ∀ p ∈ H, p.f0.length = m
  ent : ∀ p ∈ H, ∀ v ∈ p.f0, 0 ≤ v ∧ v ≤ (B : Int)
  pos : ∀ p ∈ H, 0 < p.f1
theorem say_pos {a c t k : Nat} (c1 : 1 ≤ c) (ca : c ≤ a) : 1 ≤ sayW a c t k ∧ sayW a c t k ≤ a := by unfold sayW; split <;> omega
theorem HI.step {a c m B t : Nat} {H : List S38} (h : HI m B H) (c1 : 1 ≤ c) (ca : c ≤ a) : HI m (B + 1) (stepL a c m t H) := by
  have key : ∀ q ∈ stepL a c m t H, ∃ p ∈ H, ∃ k, k < m ∧ q = ⟨inc p.f0 k, p.f1 * ((sayW a c t k : Nat) : Int)⟩ := fun q hq => by
    unfold stepL rowC at hq
    rw [List.mem_flatMap] at hq
    obtain ⟨p, hp, hq⟩ := hq
    obtain ⟨k, hk, rfl⟩ := List.mem_map.1 hq
    exact ⟨p, hp, k, List.mem_range.1 hk, rfl⟩
  refine ⟨fun q hq => ?_, fun q hq v hv => ?_, fun q hq => ?_⟩
  · obtain ⟨p, hp, k, hk, rfl⟩ := key q hq
    show (inc p.f0 k).length = m
    unfold inc
    rw [List.length_set]
    exact h.len p hp
  · obtain ⟨p, hp, k, hk, rfl⟩ := key q hq
    have hl := h.len p hp
    have hv' : v ∈ p.f0.set k (p.f0.getD k 0 + 1) := hv
    rcases List.mem_or_eq_of_mem_set hv' with e | e
    · have := h.ent p hp v e
      omega
    · have h3 : p.f0.getD k 0 ∈ p.f0 := by
        rw [List.getD_eq_getElem?_getD, List.getElem?_eq_getElem (by omega)]
        exact List.getElem_mem _
      have := h.ent p hp _ h3
      omega
  · obtain ⟨p, hp, k, hk, rfl⟩ := key q hq
    have h1 := h.pos p hp
    have h2 := (say_pos (t := t) (k := k) c1 ca).1
    exact Int.mul_pos h1 (by omega)
theorem HI.gath {m B : Nat} {l : List S38} (h : HI m B l) : HI m B (gath l) := by
  have h0 : ∀ p ∈ l, 0 ≤ p.f1 := fun p hp => Int.le_of_lt (h.pos p hp)
  have hc := tidy_canon h0
  have key : ∀ q ∈ tMerge (sortP l), ∃ p ∈ l, p.f0 = q.f0 := fun q hq => by
    obtain ⟨p, hp, e, _⟩ := (outs_iff hc h0 q.f0).2 ⟨q, hq, rfl⟩
    exact ⟨p, hp, e⟩
  refine ⟨fun q hq => ?_, fun q hq v hv => ?_, fun q hq => hc.pos q hq⟩
  · obtain ⟨p, hp, e⟩ := key q hq
    rw [← e]; exact h.len p hp
  · obtain ⟨p, hp, e⟩ := key q hq
    rw [← e] at hv
    exact h.ent p hp v hv
theorem stepL_len (a c m t : Nat) : ∀ H : List S38, (stepL a c m t H).length = H.length * m
  | [] => by simp [stepL]
  | p :: H => by
    have ih := stepL_len a c m t H
    unfold stepL at ih ⊢
    rw [List.flatMap_cons, List.length_append, ih, List.length_cons, Nat.succ_mul]
    unfold rowC
    rw [List.length_map, List.length_range]
    omega
theorem stepL_tot {a c m t : Nat} (ht : t < m) (H : List S38) : totOf (stepL a c m t H) = ((a + (m - 1) * c : Nat) : Int) * totOf H := by
  have h := stepL_S (fun _ => 1) a c m t H
  rw [eS_tot, eS_congr (K' := fun _ => (((a + (m - 1) * c : Nat) : Int) : Rat) * 1) (fun p _ => opT_one ht 1 p.f0), eS_mul (fun _ => 1), eS_tot] at h
  exact_mod_cast h
theorem gath_tot (l : List S38) : totOf (gath l) = totOf l := tMerge_tot l
theorem rd38At {xs : List Int} {i : Nat} : rd xs (i : Int) = xs.getD i 0 := by unfold rd; rw [Int.toNat_natCast]
theorem gatheredF {l : List S38} (hl : l.length ≤ 100000000) (hp : ∀ p ∈ l, 0 < p.f1) (ht : totOf l ≤ 1073741824) : crowd_gathered.F l = some (gath l) := by
  refine ((crowd_gathered.F_is l).iff _).2 ⟨0, ?_⟩
  unfold crowd_gathered.f
  rw [if_pos]
  · rfl
  · unfold gGuard tGuard
    simp only [Bool.and_eq_true, decide_eq_true_eq, List.all_eq_true]
    exact ⟨⟨⟨by omega, fun p hp' => Int.le_of_lt (hp p hp')⟩, by omega⟩, hp⟩
def WS (a c m t : Nat) : List Int := (List.replicate m (c : Int)).set t (a : Int)
theorem WS_at {a c m t k : Nat} (hk : k < m) (ht : t < m) : (WS a c m t).getD k 0 = ((sayW a c t k : Nat) : Int) := by
  unfold WS sayW
  rw [List.getD_eq_getElem?_getD, List.getElem?_set]
  by_cases e : t = k
  · rw [if_pos e, if_pos (by simpa using ht), if_pos e.symm]; rfl
  · rw [if_neg e, if_neg (fun h => e h.symm), List.getElem?_replicate, if_pos hk]; rfl
theorem in_row {a c m t : Nat} (hm : m ≤ 8) (ht : t < m) (a2 : a ≤ 1073741824) (p : S38) (hp : p.f0.length = m) (he : ∀ v ∈ p.f0, 0 ≤ v ∧ v ≤ 100) (hw : 0 ≤ p.f1 ∧ p.f1 ≤ 1073741824) (c1 : 1 ≤ c) (ca : c ≤ a) (kinds : Int) (T : List Int) (x35 x36 x51 : Int) (H : List S38) (i : Int) (u d : Int) : ∀ (n k : Nat) (acc : List S38), k + n = m → acc.length + n ≤ 100000000 →
    crowd_Shuffled.L2 kinds (WS a c m t) acc T x35 x36 H x51 i (m : Int) (k : Int) u d p.f0 p.f1 = crowd_Shuffled.L1 kinds (WS a c m t) (acc ++ ((rowC a c t m p).drop k)) T x35 x36 H x51 (wrap64 (i + 1)) u d := by
  have hW : (WS a c m t).length = m := by unfold WS; rw [List.length_set, List.length_replicate]
  have hR : (rowC a c t m p).length = m := by unfold rowC; rw [List.length_map, List.length_range]
  intro n
  induction n with
  | zero =>
    intro k acc hk _
    rw [crowd_Shuffled.L2_eq, if_neg (by omega), List.drop_of_length_le (by omega), List.append_nil]
  | succ n ih =>
    intro k acc hk hacc
    have hkm : k < m := by omega
    have hcl : slices_Clone_int_int.f p.f0 = some p.f0 := by
      unfold slices_Clone_int_int.f
      rw [if_pos (by omega)]
    have hv : 0 ≤ p.f0.getD k 0 ∧ p.f0.getD k 0 ≤ 100 := by
      refine he _ ?_
      rw [List.getD_eq_getElem?_getD, List.getElem?_eq_getElem (by omega)]
      exact List.getElem_mem _
    have hs := (say_pos (t := t) (k := k) c1 ca)
    have hmul : 0 ≤ p.f1 * ((sayW a c t k : Nat) : Int) ∧ p.f1 * ((sayW a c t k : Nat) : Int) ≤ 1073741824 * 1073741824 := ⟨Int.mul_nonneg hw.1 (by omega), Int.mul_le_mul hw.2 (by omega) (by omega) (by omega)⟩
    have e1 : (⟨p.f0.set ((k : Int)).toNat (wrap64 (p.f0.getD k 0 + 1)), wrap64 (p.f1 * ((sayW a c t k : Nat) : Int))⟩ : S38) = (rowC a c t m p)[k]'(by omega) := by
      unfold rowC inc
      rw [List.getElem_map, List.getElem_range, wrap64_of (by omega) (by omega), wrap64_of (by omega) (by omega), Int.toNat_natCast]
    rw [crowd_Shuffled.L2_eq, if_pos (by omega), if_pos (by omega), if_pos (by omega), hcl, Option.bind_some, if_pos (by omega), if_pos (by omega), rd38At, rd38At, WS_at hkm ht, e1, w1 (by omega), ih (k + 1) _ (by omega) (by rw [List.length_append, List.length_singleton]; omega), List.append_assoc, List.singleton_append, ← List.drop_eq_getElem_cons]
theorem in_rows {a c m t B : Nat} (hm : m ≤ 8) (ht : t < m) (a2 : a ≤ 1073741824) (c1 : 1 ≤ c) (ca : c ≤ a) (kinds : Int) (T : List Int) (x35 x36 : Int) (H : List S38) (u d : Int) (h : HI m B H) (hB : B ≤ 100) (hl : H.length ≤ 1048576) (htot : totOf H ≤ 1073741824) : ∀ (n i : Nat) (acc : List S38), i + n = H.length → acc.length + 8 * n ≤ 50000000 →
    crowd_Shuffled.L1 kinds (WS a c m t) acc T x35 x36 H (H.length : Int) (i : Int) u d = (crowd_gathered.F (acc ++ stepL a c m t (H.drop i))).bind (fun t186 => crowd_Shuffled.L0 kinds t186 T x35 (wrap64 (x36 + 1)) u d) := by
  have hW : (WS a c m t).length = m := by unfold WS; rw [List.length_set, List.length_replicate]
  intro n
  induction n with
  | zero =>
    intro i acc hi _
    rw [crowd_Shuffled.L1_eq, if_neg (by omega), List.drop_of_length_le (by omega)]
    unfold stepL
    rw [List.flatMap_nil, List.append_nil]
  | succ n ih =>
    intro i acc hi hacc
    have hx : i < H.length := by omega
    have hp := List.getElem_mem hx
    have h1 := h.pos _ hp
    have h2 := one_le (fun p hp => Int.le_of_lt (h.pos p hp)) hp
    have hR : (rowC a c t m H[i]).length = m := by unfold rowC; rw [List.length_map, List.length_range]
    rw [crowd_Shuffled.L1_eq, if_pos (by omega), if_pos (by omega), if_pos (by omega), rd32At hx, hW,
      show (0 : Int) = ((0 : Nat) : Int) from rfl, in_row hm ht a2 H[i] (h.len _ hp) (fun v hv => by have := h.ent _ hp v hv; omega) ⟨by omega, by omega⟩ c1 ca kinds T x35 x36 (H.length : Int) H (i : Int) u d m 0 acc (Nat.zero_add _) (by omega), List.drop_zero, w1 (by omega), ih (i + 1) _ (by omega) (by rw [List.length_append, hR]; omega), List.drop_eq_getElem_cons hx]
    unfold stepL
    rw [List.flatMap_cons, List.append_assoc]
theorem shuf_loop {a c m : Nat} (hm : m ≤ 8) (m1 : 1 ≤ m) (a2 : a ≤ 1073741824) (c1 : 1 ≤ c) (ca : c ≤ a) (T : List Int) (hT : ∀ t ∈ T, 0 ≤ t ∧ t < (m : Int)) (hlen : T.length ≤ 12) : ∀ (n i : Nat) (H : List S38) (B : Nat), i + n = T.length → HI m B H → B ≤ i → H.length * m ^ n ≤ 1048576 → totOf H * (((a + (m - 1) * c) ^ n : Nat) : Int) ≤ 1073741824 → 0 ≤ totOf H →
    crowd_Shuffled.L0 (m : Int) H T (T.length : Int) (i : Int) (a : Int) (c : Int) = (dist_Make.F (shuf a c m ((T.drop i).map Int.toNat) H)).bind (fun bt174 => some (bt174.1, bt174.2)) ∧ HI m 100 (shuf a c m ((T.drop i).map Int.toNat) H) ∧ (shuf a c m ((T.drop i).map Int.toNat) H).length ≤ 1048576 ∧ totOf (shuf a c m ((T.drop i).map Int.toNat) H) = totOf H * (((a + (m - 1) * c) ^ n : Nat) : Int) := by
  intro n
  induction n with
  | zero =>
    intro i H B hi h hB hl htot h0
    rw [List.drop_of_length_le (by omega), List.map_nil, shuf, crowd_Shuffled.L0_eq, if_neg (by omega)]
    rw [Nat.pow_zero, Nat.mul_one] at hl
    refine ⟨rfl, ⟨h.len, fun p hp v hv => by have := h.ent p hp v hv; omega, h.pos⟩, hl, by rw [Nat.pow_zero]; simp⟩
  | succ n ih =>
    intro i H B hi h hB hl htot h0
    have hx : i < T.length := by omega
    have ht := hT _ (List.getElem_mem hx)
    obtain ⟨t, et⟩ := Int.eq_ofNat_of_zero_le ht.1
    have htm : t < m := by omega
    have ee : 1 ≤ a + (m - 1) * c := by omega
    generalize hE : a + (m - 1) * c = E at *
    have hpn : 1 ≤ m ^ n := Nat.pow_pos (by omega)
    have hEn : 1 ≤ E ^ n := Nat.pow_pos (by omega)
    have hHl : H.length * m ≤ 1048576 := by
      have : H.length * m * 1 ≤ H.length * m * m ^ n := Nat.mul_le_mul_left _ hpn
      rw [Nat.pow_succ, Nat.mul_comm (m ^ n) m, ← Nat.mul_assoc] at hl
      omega
    have hHl2 : H.length ≤ 1048576 := by
      have : H.length * 1 ≤ H.length * m := Nat.mul_le_mul_left _ m1
      omega
    have htE : totOf H * (E : Int) * ((E ^ n : Nat) : Int) ≤ 1073741824 := by
      rw [Nat.pow_succ, Nat.mul_comm (E ^ n) E, Int.natCast_mul, ← Int.mul_assoc] at htot
      exact htot
    have htE0 : 0 ≤ totOf H * (E : Int) := Int.mul_nonneg h0 (by omega)
    have htE1 : totOf H * (E : Int) ≤ 1073741824 := by
      have : totOf H * (E : Int) * 1 ≤ totOf H * (E : Int) * ((E ^ n : Nat) : Int) := Int.mul_le_mul_of_nonneg_left (by omega) htE0
      omega
    have htH : totOf H ≤ 1073741824 := by
      have : totOf H * 1 ≤ totOf H * (E : Int) := Int.mul_le_mul_of_nonneg_left (by omega) h0
      omega
    have hstep := h.step (a := a) (c := c) (t := t) c1 ca
    have hg := hstep.gath
    have hst : totOf (stepL a c m t H) = totOf H * (E : Int) := by rw [stepL_tot htm, hE, Int.mul_comm]
    have hgt : totOf (gath (stepL a c m t H)) = totOf H * (E : Int) := by rw [gath_tot, hst]
    have hsl := stepL_len a c m t H
    have hgl : (gath (stepL a c m t H)).length ≤ H.length * m := by
      have := tMerge_len (stepL a c m t H)
      unfold gath
      omega
    have hrep : slices_Repeat_int_int.f ([(c : Int)] : List Int) (m : Int) = some (List.replicate m (c : Int)) := by
      unfold slices_Repeat_int_int.f
      rw [if_pos ⟨rfl, by omega, by omega⟩, Int.toNat_natCast]; rfl
    have hF : crowd_gathered.F ([] ++ stepL a c m t (H.drop 0)) = some (gath (stepL a c m t H)) := by
      rw [List.nil_append, List.drop_zero]
      exact gatheredF (by omega) hstep.pos (by omega)
    have hr := in_rows hm htm a2 c1 ca (m : Int) T (T.length : Int) (i : Int) H (a : Int) (c : Int) h (by omega) hHl2 htH H.length 0 [] (Nat.zero_add _) (by rw [List.length_nil]; omega)
    rw [hF, Option.bind_some, w1 (by omega)] at hr
    have e0 : crowd_Shuffled.L0 (m : Int) H T (T.length : Int) (i : Int) (a : Int) (c : Int) = crowd_Shuffled.L0 (m : Int) (gath (stepL a c m t H)) T (T.length : Int) ((i + 1 : Nat) : Int) (a : Int) (c : Int) := by
      rw [crowd_Shuffled.L0_eq, if_pos (by omega), if_pos (by omega), if_pos (by omega), hrep, Option.bind_some, rdAt hx, et, if_pos (by omega), if_pos (by rw [List.length_replicate]; omega), Int.toNat_natCast]
      exact hr
    have nl : (gath (stepL a c m t H)).length * m ^ n ≤ 1048576 := by
      have : (gath (stepL a c m t H)).length * m ^ n ≤ H.length * m * m ^ n := Nat.mul_le_mul_right _ hgl
      rw [Nat.pow_succ, Nat.mul_comm (m ^ n) m, ← Nat.mul_assoc] at hl
      omega
    obtain ⟨r1, r2, r3, r4⟩ := ih (i + 1) (gath (stepL a c m t H)) (B + 1) (by omega) hg (by omega) nl (by rw [hgt]; exact htE) (by omega)
    have ed : (T.drop i).map Int.toNat = t :: (T.drop (i + 1)).map Int.toNat := by
      rw [List.drop_eq_getElem_cons hx, List.map_cons, et, Int.toNat_natCast]
    rw [ed, shuf, e0]
    refine ⟨r1, r2, r3, ?_⟩
    rw [r4, hgt, Nat.pow_succ, Nat.mul_comm (E ^ n) E, Int.natCast_mul, Int.mul_assoc]
def start (m : Nat) : List S38 := [⟨List.replicate m 0, 1⟩]
theorem start_HI (m : Nat) : HI m 0 (start m) := by
  unfold start
  refine ⟨fun p hp => ?_, fun p hp v hv => ?_, fun p hp => ?_⟩
  · rw [List.mem_singleton.1 hp]; exact List.length_replicate
  · rw [List.mem_singleton.1 hp] at hv
    have := (List.mem_replicate.1 hv).2
    omega
  · rw [List.mem_singleton.1 hp]
    show (0 : Int) < 1
    decide
inductive ShufForm (u d kinds : Int) (T : List Int) : Prop
  | bad (e : Int) (h : e ≠ 0) (hF : crowd_Shuffled.F u d kinds T = some ([], e))
  | good (a c m : Nat) (hu : u = a) (hd : d = c) (hm : kinds = m) (c1 : 1 ≤ c) (ca : c ≤ a) (a2 : a ≤ 1073741824) (hco : Nat.gcd a c = 1) (m1 : 1 ≤ m) (m2 : m ≤ 8) (hs : a + (m - 1) * c ≤ 1073741824) (hl : T.length ≤ 12)
      (hT : ∀ t ∈ T, 0 ≤ t ∧ t < (m : Int)) (hp : (a + (m - 1) * c) ^ T.length ≤ 1073741824) (hR : ∃ r, noise_Respond.F u d kinds 0 = some (r, 0))
      (hI : HI m 100 (shuf a c m (T.map Int.toNat) (start m))) (hb : Bd (shuf a c m (T.map Int.toNat) (start m))) (ht : totOf (shuf a c m (T.map Int.toNat) (start m)) = (((a + (m - 1) * c) ^ T.length : Nat) : Int)) (hF : crowd_Shuffled.F u d kinds T = some (makeP (shuf a c m (T.map Int.toNat) (start m))))
theorem shuf_form (u d kinds : Int) (T : List Int) (hw : 2 ≤ kinds → kinds.toNat ^ T.length ≤ 1048576) : ShufForm u d kinds T := by
  cases people_form u d kinds T with
  | bad e h hF =>
    obtain ⟨x, hF⟩ := hF
    exact .bad e h (by rw [crowd_Shuffled.F_eq, hF, Option.bind_some, if_neg h])
  | good a c m hu hd hm c1 ca a2 hco m1 m2 hs hl hT hp hR hF =>
    have hpow : 1 * m ^ T.length ≤ 1048576 := by
      rcases Nat.lt_or_ge m 2 with h | h
      · obtain rfl : m = 1 := by omega
        rw [Nat.one_pow]; omega
      · have := hw (by omega)
        rw [hm, Int.toNat_natCast] at this
        omega
    have h := shuf_loop m2 m1 a2 c1 ca T hT hl T.length 0 (start m) 0 (Nat.zero_add _) (start_HI m) (Nat.le_refl _) hpow (by show (1 : Int) * _ ≤ _; omega) (by show (0 : Int) ≤ 1; decide)
    rw [List.drop_zero] at h
    obtain ⟨r1, r2, r3, r4⟩ := h
    have hb : Bd (shuf a c m (T.map Int.toNat) (start m)) := ⟨r3, fun p hp => by have := r2.len p hp; omega⟩
    refine .good a c m hu hd hm c1 ca a2 hco m1 m2 hs hl hT hp hR r2 hb ?_ ?_
    · rw [r4]
      show (1 : Int) * _ = _
      omega
    · rw [crowd_Shuffled.F_eq, hF, Option.bind_some, if_pos rfl, if_pos (by omega), if_pos (by omega), hu, hd, hm, Int.toNat_natCast]
      refine (show _ = _ from r1).trans ?_
      rw [makeF1 _ hb]
      rfl
end Go.Proofs.Ytfoolbcfpedhmaa.DistPure
end
section
namespace Go.Proofs.Ytfoolbcfpedhmaa.DistPure
set_option linter.unusedVariables false
set_option linter.unusedSimpArgs false
open Go.RowKit Go.Proofs.Ytfoolbcfpedhmaa.PA Go.Proofs.YtfoolbcfpedhmaaW.PrintWords Go.Proofs.YtfoolbcfpedhmaaW.PrintLast Go.Proofs.YtfoolbcfpedhmaaW.PrintMore Go.Proofs.YtfoolbcfpedhmaaW.EvKit
theorem alive_say : ∃ r, noise_Respond.F 2 1 2 0 = some (r, 0) := by
  have hl : lossP 2 1 = 0 := by decide
  cases say_form 2 1 2 with
  | bad h hb => exact absurd ⟨hl, by decide, by decide, by decide⟩ hb
  | good a c m hu hd hm c1 ca a2 hco m1 m2 hs hout hin =>
    have h := hin 0 (by omega)
    have h0 := say_zero (t := 0) a c m hu hd hm c1 ca a2 m1 m2 hs (k := 0) (by omega)
    exact ⟨(makeP (numL 0 (sayW a c 0) m)).1, h.trans (congrArg some (Prod.ext rfl h0))⟩
theorem alive_people : crowd_people.F 2 1 2 [0] = some (3, 0) := by
  obtain ⟨r, hr⟩ := alive_say
  have r0 : rd ([0] ++ [0] : List Int) 0 = 0 := rfl
  have r1 : rd ([0] ++ [0] : List Int) 1 = 0 := rfl
  have q1 : wrap64 ((0 : Int) + 1) = 1 := by decide +kernel
  have q2 : wrap64 ((1 : Int) + 1) = 2 := by decide +kernel
  have q3 : wrap64 ((2 : Int) + (wrap64 ((wrap64 ((2 : Int) - 1)) * 1))) = 3 := by decide +kernel
  have q4 : wrap64 ((1 : Int) * 3) = 3 := by decide +kernel
  have l2 : ((([0] ++ [0] : List Int).length : Nat) : Int) = 2 := rfl
  have l1 : ((([0] : List Int).length : Nat) : Int) = 1 := rfl
  rw [crowd_people.F_eq, if_neg (by decide), show decide ((2 : Int) > 8) = false from rfl, crowd_people.J0_eq, if_neg (by decide), l1, if_neg (by decide), Option.bind_some, if_pos (by decide), Option.bind_some, l2,
    crowd_people.L0_eq, if_pos (by decide), if_pos (by decide), if_pos (by decide), r0, hr, Option.bind_some, if_pos rfl, q1,
    crowd_people.L0_eq, if_pos (by decide), if_pos (by decide), if_pos (by decide), r1, hr, Option.bind_some, if_pos rfl, q2,
    crowd_people.L0_eq, if_neg (by decide), q3, crowd_people.L1_eq, if_pos (by decide), q4, if_neg (by decide), q1, crowd_people.L1_eq, if_neg (by decide)]
theorem alive_gath : gath [(⟨[1, 0], 2⟩ : S38), ⟨[0, 1], 1⟩] = [⟨[0, 1], 1⟩, ⟨[1, 0], 2⟩] := by
  unfold gath
  rw [← tMerge_any (ys := [(⟨[0, 1], 1⟩ : S38), ⟨[1, 0], 2⟩]) (List.Perm.swap _ _ _) (fun p hp => by
    rcases List.mem_cons.1 hp with e | e
    · rw [e]; decide
    · rw [List.mem_singleton.1 e]; decide) (by decide)]
  rfl
theorem alive13 : hushlaw13_alive.F = some true := by
  have h := shuf_loop (a := 2) (c := 1) (m := 2) (by decide) (by decide) (by decide) (by decide) (by decide) [0] (fun t ht => by rw [List.mem_singleton.1 ht]; decide) (by decide) 1 0 (start 2) 0 rfl (start_HI 2) (Nat.le_refl _) (by decide) (by decide) (by decide)
  have e1 : shuf 2 1 2 (([0] : List Int).map Int.toNat) (start 2) = [⟨[0, 1], 1⟩, ⟨[1, 0], 2⟩] := by
    rw [List.map_cons, List.map_nil, shuf, shuf]
    exact alive_gath
  have ho : Ord [(⟨[0, 1], 1⟩ : S38), ⟨[1, 0], 2⟩] := by
    refine ⟨?_, fun p hp => ?_, by decide, by simp, by decide, by decide⟩
    · unfold Strict
      decide
    · rcases List.mem_cons.1 hp with e | e
      · rw [e]; decide
      · rw [List.mem_singleton.1 e]; decide
  obtain ⟨r1, r2, r3, r4⟩ := h
  rw [List.drop_zero, e1] at r1 r2 r3
  have hb : Bd [(⟨[0, 1], 1⟩ : S38), ⟨[1, 0], 2⟩] := ⟨r3, fun p hp => by have := r2.len p hp; omega⟩
  rw [makeF1 _ hb, ho.make, Option.bind_some] at r1
  have l1 : ((([0] : List Int).length : Nat) : Int) = 1 := rfl
  rw [l1] at r1
  rw [hushlaw13_alive.F_eq, crowd_Shuffled.F_eq, alive_people, Option.bind_some, if_pos rfl, if_pos (by decide), if_pos (by decide), l1]
  have e2 : crowd_Shuffled.L0 2 ([(⟨(List.replicate ((2 : Int)).toNat 0), 1⟩ : S38)]) [0] 1 0 2 1 = some (divG [(⟨[0, 1], 1⟩ : S38), ⟨[1, 0], 2⟩], 0) := r1
  rw [e2, Option.bind_some, if_pos rfl]
  unfold divG
  rw [List.length_map]
  rfl
end Go.Proofs.Ytfoolbcfpedhmaa.DistPure
end
section
namespace Go.Proofs.Ytfoolbcfpedhmaa.DistPure
set_option linter.unusedVariables false
set_option linter.unusedSimpArgs false
open Go.RowKit Go.Proofs.Ytfoolbcfpedhmaa.PA Go.Proofs.YtfoolbcfpedhmaaW.PrintWords Go.Proofs.YtfoolbcfpedhmaaW.PrintLast Go.Proofs.YtfoolbcfpedhmaaW.PrintMore Go.Proofs.YtfoolbcfpedhmaaW.EvKit
theorem cast_nn {x : Int} (h : 0 ≤ x) : (0 : Rat) ≤ (x : Rat) := Rat.intCast_nonneg.2 h
theorem inv_nn {t : Int} (h : 0 < t) : (0 : Rat) ≤ ((t : Int) : Rat)⁻¹ := Rat.le_of_lt (Rat.inv_pos.2 (by exact_mod_cast h))
theorem eI_nn (o x : List Int) : 0 ≤ eI o x := by
  unfold eI
  split <;> grind
def fr (s : Nat × Nat) : Rat := ((s.1 : Int) : Rat) / ((s.2 : Int) : Rat)
theorem cross_le {x y ta tb p q : Nat} (hta : 1 ≤ ta) (htb : 1 ≤ tb) (hq : 1 ≤ q) (h : x * tb * q ≤ p * (y * ta)) : ((x : Int) : Rat) / ((ta : Int) : Rat) ≤ ((p : Int) : Rat) / ((q : Int) : Rat) * (((y : Int) : Rat) / ((tb : Int) : Rat)) := by
  have a0 : (0 : Rat) < ((ta : Int) : Rat) := by exact_mod_cast (show (0 : Int) < (ta : Int) by omega)
  have b0 : (0 : Rat) < ((tb : Int) : Rat) := by exact_mod_cast (show (0 : Int) < (tb : Int) by omega)
  have q0 : (0 : Rat) < ((q : Int) : Rat) := by exact_mod_cast (show (0 : Int) < (q : Int) by omega)
  have h1 : ((x : Int) : Rat) * ((tb : Int) : Rat) * ((q : Int) : Rat) ≤ ((p : Int) : Rat) * (((y : Int) : Rat) * ((ta : Int) : Rat)) := by exact_mod_cast h
  have i0 : (0 : Rat) ≤ (((ta : Int) : Rat)⁻¹ * (((tb : Int) : Rat)⁻¹ * ((q : Int) : Rat)⁻¹)) := Rat.mul_nonneg (Rat.le_of_lt (Rat.inv_pos.2 a0)) (Rat.mul_nonneg (Rat.le_of_lt (Rat.inv_pos.2 b0)) (Rat.le_of_lt (Rat.inv_pos.2 q0)))
  have h2 := Rat.mul_le_mul_of_nonneg_right h1 i0
  have ea : ((ta : Int) : Rat) * ((ta : Int) : Rat)⁻¹ = 1 := by grind
  have eb : ((tb : Int) : Rat) * ((tb : Int) : Rat)⁻¹ = 1 := by grind
  have eq : ((q : Int) : Rat) * ((q : Int) : Rat)⁻¹ = 1 := by grind
  rw [Rat.div_def, Rat.div_def, Rat.div_def]
  generalize ((ta : Int) : Rat)⁻¹ = ia at *
  generalize ((tb : Int) : Rat)⁻¹ = ib at *
  generalize ((q : Int) : Rat)⁻¹ = iq at *
  have l1 : ((x : Int) : Rat) * ((tb : Int) : Rat) * ((q : Int) : Rat) * (ia * (ib * iq)) = ((x : Int) : Rat) * ia := by
    calc _ = ((x : Int) : Rat) * ia * (((tb : Int) : Rat) * ib) * (((q : Int) : Rat) * iq) := by grind
      _ = _ := by rw [eb, eq]; grind
  have l2 : ((p : Int) : Rat) * (((y : Int) : Rat) * ((ta : Int) : Rat)) * (ia * (ib * iq)) = ((p : Int) : Rat) * iq * (((y : Int) : Rat) * ib) := by
    calc _ = ((p : Int) : Rat) * iq * (((y : Int) : Rat) * ib) * (((ta : Int) : Rat) * ia) := by grind
      _ = _ := by rw [ea]; grind
  rw [l1, l2] at h2
  exact h2
theorem eI_val {a : List S38} {ta : Nat} (ha : RD a) (ea : totOf a = (ta : Int)) (o : List Int) : eE (eI o) a = (((wOf a o).toNat : Int) : Rat) / ((ta : Int) : Rat) := by
  unfold eE
  rw [eS_w, ea, Int.toNat_of_nonneg (ha.wbd o).1]
theorem FarOK.le {a b : List S38} {ta tb : Nat} {s : Nat × Nat} (h : FarOK a b ta tb s) (o : List Int) : eE (eI o) a ≤ fr s * eE (eI o) b ∧ eE (eI o) b ≤ fr s * eE (eI o) a := by
  rw [eI_val h.two.a h.ea, eI_val h.two.b h.eb]
  have h1 := (h.two.a.wbd o).1
  have h2 := (h.two.b.wbd o).1
  by_cases c : 0 < wOf a o ∨ 0 < wOf b o
  · obtain ⟨_, _, k1, k2, _⟩ := h.at o c
    have hs := h.mx.pos.2
    unfold le2 uv pw at k1 k2
    exact ⟨cross_le h.a1 h.b1 hs k1, cross_le h.b1 h.a1 hs k2⟩
  · have z1 : (wOf a o).toNat = 0 := by omega
    have z2 : (wOf b o).toNat = 0 := by omega
    rw [z1, z2, Rat.div_def, Rat.div_def]
    have z : (((0 : Nat) : Int) : Rat) = 0 := rfl
    rw [z]
    constructor <;> grind
theorem cross_ge {x y ta tb p q : Nat} {R : Rat} (hta : 1 ≤ ta) (htb : 1 ≤ tb) (hq : 1 ≤ q) (hy : 1 ≤ y) (h : p * (y * ta) ≤ x * tb * q) (hR : ((x : Int) : Rat) / ((ta : Int) : Rat) ≤ R * (((y : Int) : Rat) / ((tb : Int) : Rat))) : ((p : Int) : Rat) / ((q : Int) : Rat) ≤ R := by
  have a0 : (0 : Rat) < ((ta : Int) : Rat) := by exact_mod_cast (show (0 : Int) < (ta : Int) by omega)
  have b0 : (0 : Rat) < ((tb : Int) : Rat) := by exact_mod_cast (show (0 : Int) < (tb : Int) by omega)
  have q0 : (0 : Rat) < ((q : Int) : Rat) := by exact_mod_cast (show (0 : Int) < (q : Int) by omega)
  have y0 : (0 : Rat) < ((y : Int) : Rat) := by exact_mod_cast (show (0 : Int) < (y : Int) by omega)
  have h1 : ((p : Int) : Rat) * (((y : Int) : Rat) * ((ta : Int) : Rat)) ≤ ((x : Int) : Rat) * ((tb : Int) : Rat) * ((q : Int) : Rat) := by exact_mod_cast h
  -- x * tb ≤ R * y * ta
  have h2 := Rat.mul_le_mul_of_nonneg_right hR (Rat.le_of_lt (Rat.mul_pos a0 b0))
  have e1 : ((x : Int) : Rat) / ((ta : Int) : Rat) * (((ta : Int) : Rat) * ((tb : Int) : Rat)) = ((x : Int) : Rat) * ((tb : Int) : Rat) := by grind
  have e2 : R * (((y : Int) : Rat) / ((tb : Int) : Rat)) * (((ta : Int) : Rat) * ((tb : Int) : Rat)) = R * (((y : Int) : Rat) * ((ta : Int) : Rat)) := by grind
  rw [e1, e2] at h2
  have h3 := Rat.mul_le_mul_of_nonneg_right h2 (Rat.le_of_lt q0)
  have h4 : ((p : Int) : Rat) * (((y : Int) : Rat) * ((ta : Int) : Rat)) ≤ R * (((y : Int) : Rat) * ((ta : Int) : Rat)) * ((q : Int) : Rat) := Rat.le_trans h1 h3
  have i0 : (0 : Rat) ≤ ((((y : Int) : Rat) * ((ta : Int) : Rat))⁻¹ * ((q : Int) : Rat)⁻¹) := Rat.mul_nonneg (Rat.le_of_lt (Rat.inv_pos.2 (Rat.mul_pos y0 a0))) (Rat.le_of_lt (Rat.inv_pos.2 q0))
  have h5 := Rat.mul_le_mul_of_nonneg_right h4 i0
  have w0 : ((y : Int) : Rat) * ((ta : Int) : Rat) ≠ 0 := by
    have := Rat.mul_pos y0 a0
    grind
  generalize ((y : Int) : Rat) * ((ta : Int) : Rat) = W at *
  have q1 : ((q : Int) : Rat) ≠ 0 := by grind
  have e3 : ((p : Int) : Rat) * W * (W⁻¹ * ((q : Int) : Rat)⁻¹) = ((p : Int) : Rat) / ((q : Int) : Rat) := by grind
  have e4 : R * W * ((q : Int) : Rat) * (W⁻¹ * ((q : Int) : Rat)⁻¹) = R := by grind
  rw [e3, e4] at h5
  exact h5
theorem FarOK.sup {a b : List S38} {ta tb : Nat} {s : Nat × Nat} (h : FarOK a b ta tb s) {R : Rat} (hR : 1 ≤ R) (hh : ∀ o, eE (eI o) a ≤ R * eE (eI o) b ∧ eE (eI o) b ≤ R * eE (eI o) a) : fr s ≤ R := by
  have hs := h.mx.pos.2
  have q0 : (0 : Rat) < ((s.2 : Int) : Rat) := by exact_mod_cast (show (0 : Int) < (s.2 : Int) by omega)
  rcases h.some with c | ⟨o, p1, p2, c⟩
  · unfold le2 at c
    have c' : ((s.1 : Int) : Rat) ≤ ((s.2 : Int) : Rat) := by exact_mod_cast (show s.1 ≤ s.2 by omega)
    have h1 := Rat.mul_le_mul_of_nonneg_right c' (Rat.le_of_lt (Rat.inv_pos.2 q0))
    have q1 : ((s.2 : Int) : Rat) ≠ 0 := by grind
    have e : ((s.2 : Int) : Rat) * ((s.2 : Int) : Rat)⁻¹ = 1 := by grind
    unfold fr
    rw [Rat.div_def]
    rw [e] at h1
    exact Rat.le_trans h1 hR
  · have hl := hh o
    rw [eI_val h.two.a h.ea, eI_val h.two.b h.eb] at hl
    unfold le2 uv pw at c
    rcases c with c | c
    · exact cross_ge h.a1 h.b1 hs (by omega) c hl.1
    · exact cross_ge h.b1 h.a1 hs (by omega) c hl.2
theorem no_of {a b : List S38} (ht : Two a b) {R : Rat} (hh : ∀ o, eE (eI o) a ≤ R * eE (eI o) b ∧ eE (eI o) b ≤ R * eE (eI o) a) : ∀ x ∈ pairsL a b, pNo x := by
  intro x hx
  obtain ⟨o, ho, rfl⟩ := List.mem_map.1 (ht.perm.mem_iff.1 hx)
  have pa := ht.a.right.pos
  have pb := ht.b.right.pos
  have ea : totOf a = (((totOf a).toNat : Nat) : Int) := by omega
  have eb : totOf b = (((totOf b).toNat : Nat) : Int) := by omega
  have hl := hh o
  rw [eI_val ht.a ea, eI_val ht.b eb] at hl
  have wa := (ht.a.wbd o).1
  have wb := (ht.b.wbd o).1
  have a0 : (0 : Rat) < (((totOf a).toNat : Int) : Rat) := by exact_mod_cast (show (0 : Int) < ((totOf a).toNat : Int) by omega)
  have b0 : (0 : Rat) < (((totOf b).toNat : Int) : Rat) := by exact_mod_cast (show (0 : Int) < ((totOf b).toNat : Int) by omega)
  have key : ∀ (u v : Int) (t : Nat), 0 ≤ v → (0 : Rat) < ((t : Int) : Rat) → u = 0 → ((v.toNat : Int) : Rat) / ((t : Int) : Rat) ≤ R * (((u.toNat : Int) : Rat) / (((totOf a).toNat : Int) : Rat)) ∨ ((v.toNat : Int) : Rat) / ((t : Int) : Rat) ≤ R * (((u.toNat : Int) : Rat) / (((totOf b).toNat : Int) : Rat)) → v = 0 := by
    intro u v t hv ht hu hle
    have hz : ((v.toNat : Int) : Rat) / ((t : Int) : Rat) ≤ 0 := by
      rw [hu] at hle
      have z : ((((0 : Int).toNat : Nat) : Int) : Rat) = 0 := rfl
      rw [z, Rat.div_def, Rat.div_def, Rat.div_def] at hle
      rw [Rat.div_def]
      rcases hle with e | e <;> grind
    have h3 := Rat.mul_le_mul_of_nonneg_right hz (Rat.le_of_lt ht)
    have t1 : ((t : Int) : Rat) ≠ 0 := by grind
    have e1 : ((v.toNat : Int) : Rat) / ((t : Int) : Rat) * ((t : Int) : Rat) = ((v.toNat : Int) : Rat) := by grind
    rw [e1, Rat.zero_mul] at h3
    have h4 : (v.toNat : Int) ≤ 0 := by exact_mod_cast h3
    omega
  have h0 : wOf a o = 0 ↔ wOf b o = 0 := ⟨fun e => key _ _ _ wb b0 e (.inl hl.2), fun e => key _ _ _ wa a0 e (.inr hl.1)⟩
  have hsome := (outs_mem ho)
  have hpos : wOf a o ≠ 0 ∨ wOf b o ≠ 0 := by
    rcases hsome with ⟨p, hp, e⟩ | ⟨p, hp, e⟩
    · left
      have h5 := wOf_ge ht.a.nn hp
      have h6 := ht.a.pw p hp
      rw [e] at h5
      omega
    · right
      have h5 := wOf_ge ht.b.nn hp
      have h6 := ht.b.pw p hp
      rw [e] at h5
      omega
  show ¬ wOf a o = 0 ∧ ¬ wOf b o = 0
  rw [h0]
  rcases hpos with e | e
  · exact ⟨fun x => e (h0.2 x), fun x => e (h0.2 x)⟩
  · exact ⟨e, e⟩
end Go.Proofs.Ytfoolbcfpedhmaa.DistPure
end
section
namespace Go.Proofs.Ytfoolbcfpedhmaa.DistPure
set_option linter.unusedVariables false
set_option linter.unusedSimpArgs false
open Go.RowKit Go.Proofs.Ytfoolbcfpedhmaa.PA Go.Proofs.YtfoolbcfpedhmaaW.PrintWords Go.Proofs.YtfoolbcfpedhmaaW.PrintLast Go.Proofs.YtfoolbcfpedhmaaW.PrintMore Go.Proofs.YtfoolbcfpedhmaaW.EvKit
theorem wide_loop (k : Int) (L : Nat) (hk : 2 ≤ k) (hk2 : k ≤ 9223372036854775807) (hL : L ≤ 4611686018427387904) : ∀ (n i : Nat), i + n = L → k.toNat ^ i ≤ 1048576 →
    ∃ b, hushlaw13_wide.L0 k ((k.toNat ^ i : Nat) : Int) (L : Int) (i : Int) = some b ∧ (b = false → k.toNat ^ L ≤ 1048576) := by
  obtain ⟨q, rfl⟩ := Int.eq_ofNat_of_zero_le (show 0 ≤ k by omega)
  rw [Int.toNat_natCast]
  intro n
  induction n with
  | zero =>
    intro i hi h
    obtain rfl : i = L := by omega
    rw [hushlaw13_wide.L0_eq, if_neg (by omega)]
    exact ⟨false, rfl, fun _ => h⟩
  | succ n ih =>
    intro i hi h
    have h2 := Nat.div_mul_le_self 1048576 q
    have hq : 1048576 / q ≤ 1048576 := Nat.div_le_self _ _
    have hd : Int.tdiv (1048576 : Int) (q : Int) = ((1048576 / q : Nat) : Int) := by
      rw [show (1048576 : Int) = ((1048576 : Nat) : Int) from rfl, ← Int.ofNat_tdiv]
    generalize 1048576 / q = Q at *
    rw [hushlaw13_wide.L0_eq, if_pos (by omega), if_neg (by omega), if_neg (by omega), hd, wrap64_of (by omega) (by omega)]
    by_cases c : q ^ i > Q
    · rw [if_pos (by omega)]
      exact ⟨true, rfl, fun h => by cases h⟩
    · have hm : q ^ i * q ≤ 1048576 := by
        have h1 : q ^ i * q ≤ Q * q := Nat.mul_le_mul_right _ (by omega)
        omega
      have e : wrap64 (((q ^ i : Nat) : Int) * (q : Int)) = ((q ^ (i + 1) : Nat) : Int) := by
        rw [← Int.natCast_mul, ← Nat.pow_succ, wrap64_of (by omega) (by rw [Nat.pow_succ]; omega)]
      rw [if_neg (by omega), e, w1 (by omega)]
      exact ih (i + 1) (by omega) (by rw [Nat.pow_succ]; exact hm)
theorem wideF (k : Int) (T : List Int) (hk2 : k ≤ 9223372036854775807) (hT : T.length ≤ 4611686018427387904) : ∃ b, hushlaw13_wide.F k T = some b ∧ (b = false → 2 ≤ k → k.toNat ^ T.length ≤ 1048576) := by
  rw [hushlaw13_wide.F_eq]
  by_cases c : k < 2
  · refine ⟨false, ?_, fun _ h => by omega⟩
    rw [hushlaw13_wide.L0_eq]
    by_cases c2 : (0 : Int) < (T.length : Int)
    · rw [if_pos c2, if_pos c]
    · rw [if_neg c2]
  · obtain ⟨b, h1, h2⟩ := wide_loop k T.length (by omega) hk2 hT T.length 0 (Nat.zero_add _) (by simp)
    rw [Nat.pow_zero] at h1
    exact ⟨b, h1, fun h _ => h2 h⟩
end Go.Proofs.Ytfoolbcfpedhmaa.DistPure
end
section
namespace Go.Proofs.Ytfoolbcfpedhmaa.PA
open Go.RowKit Go.Proofs.YtfoolbcfpedhmaaW.PrintWords Go.Proofs.YtfoolbcfpedhmaaW.PrintLast Go.Proofs.YtfoolbcfpedhmaaW.PrintMore
open Go.Proofs.YtfoolbcfpedhmaaW.EvKit
set_option linter.unusedVariables false
noncomputable def hushlaw13_CrowdKeeps.J0 (x1 : Int) (x2 : List Int) (x3 : Int) (x4 : Int) (x31 : Bool) (x226000 : Int) (x226001 : Int) : Option (Bool) := lim (fun k => hushlaw13_CrowdKeeps.j0 k x1 x2 x3 x4 x31 x226000 x226001)
theorem hushlaw13_CrowdKeeps.J0_is (x1 : Int) (x2 : List Int) (x3 : Int) (x4 : Int) (x31 : Bool) (x226000 : Int) (x226001 : Int) : LimIs (fun k => hushlaw13_CrowdKeeps.j0 k x1 x2 x3 x4 x31 x226000 x226001) (hushlaw13_CrowdKeeps.J0 x1 x2 x3 x4 x31 x226000 x226001) := ⟨fun k => (hushlaw13_CrowdKeeps.mono_l k).1 x1 x2 x3 x4 x31 x226000 x226001, rfl⟩
noncomputable def hushlaw13_CrowdKeeps.J1 (x12 : List (S38)) (x14 : List (S38)) (x58 : Bool) (x226000 : Int) (x226001 : Int) : Option (Bool) := lim (fun k => hushlaw13_CrowdKeeps.j1 k x12 x14 x58 x226000 x226001)
theorem hushlaw13_CrowdKeeps.J1_is (x12 : List (S38)) (x14 : List (S38)) (x58 : Bool) (x226000 : Int) (x226001 : Int) : LimIs (fun k => hushlaw13_CrowdKeeps.j1 k x12 x14 x58 x226000 x226001) (hushlaw13_CrowdKeeps.J1 x12 x14 x58 x226000 x226001) := ⟨fun k => (hushlaw13_CrowdKeeps.mono_l k).2 x12 x14 x58 x226000 x226001, rfl⟩
noncomputable def crowd_gcd.L0 (x0 : Int) (x1 : Int) : Option (Int) := lim (fun k => crowd_gcd.l0 k x0 x1)
theorem crowd_gcd.L0_is (x0 : Int) (x1 : Int) : LimIs (fun k => crowd_gcd.l0 k x0 x1) (crowd_gcd.L0 x0 x1) := ⟨fun k => (crowd_gcd.mono_l k) x0 x1, rfl⟩
noncomputable def hushlaw13_CrowdKeeps.F (a0_0 : Int) (a0_1 : Int) (a1 : Int) (l2 : List Int) (a3 : Int) (a4 : Int) : Option (Bool) := lim (fun k => hushlaw13_CrowdKeeps.f k a0_0 a0_1 a1 l2 a3 a4)
theorem hushlaw13_CrowdKeeps.F_is (a0_0 : Int) (a0_1 : Int) (a1 : Int) (l2 : List Int) (a3 : Int) (a4 : Int) : LimIs (fun k => hushlaw13_CrowdKeeps.f k a0_0 a0_1 a1 l2 a3 a4) (hushlaw13_CrowdKeeps.F a0_0 a0_1 a1 l2 a3 a4) := ⟨fun k => hushlaw13_CrowdKeeps.mono a0_0 a0_1 a1 l2 a3 a4 k, rfl⟩
noncomputable def crowd_gcd.F (a0 : Int) (a1 : Int) : Option (Int) := lim (fun k => crowd_gcd.f k a0 a1)
theorem crowd_gcd.F_is (a0 : Int) (a1 : Int) : LimIs (fun k => crowd_gcd.f k a0 a1) (crowd_gcd.F a0 a1) := ⟨fun k => crowd_gcd.mono a0 a1 k, rfl⟩
set_option maxRecDepth 100000 in
theorem hushlaw13_CrowdKeeps.J0_eq (x1 : Int) (x2 : List Int) (x3 : Int) (x4 : Int) (x31 : Bool) (x226000 : Int) (x226001 : Int) : hushlaw13_CrowdKeeps.J0 x1 x2 x3 x4 x31 x226000 x226001 = if x31 = true then (some true) else ((some (([] : List Int) : List Int)).bind fun y228 => (if y228.length + x2.length < 17592186044416 then ((some (y228 ++ x2 : List Int)).bind fun y231 => (if 0 ≤ x3 then (if x3 < (y231.length : Int) then ((crowd_Shuffled.F x226000 x226001 x1 x2).bind fun bt235 => ((crowd_Shuffled.F x226000 x226001 x1 (y231.set (x3 : Int).toNat x4)).bind fun bt239 => (if bt235.2 = 0 then (hushlaw13_CrowdKeeps.J1 bt235.1 bt239.1 (bt239.2 != 0) x226000 x226001) else (hushlaw13_CrowdKeeps.J1 bt235.1 bt239.1 true x226000 x226001)))) else (none)) else (none))) else (none))) := by
  refine LimIs.step' (hushlaw13_CrowdKeeps.J0_is x1 x2 x3 x4 x31 x226000 x226001).1 (b := fun k => if x31 = true then (some true) else ((some (([] : List Int) : List Int)).bind fun y228 => (if y228.length + x2.length < 17592186044416 then ((some (y228 ++ x2 : List Int)).bind fun y231 => (if 0 ≤ x3 then (if x3 < (y231.length : Int) then ((crowd_Shuffled.f k x226000 x226001 x1 x2).bind fun bt235 => ((crowd_Shuffled.f k x226000 x226001 x1 (y231.set (x3 : Int).toNat x4)).bind fun bt239 => (if bt235.2 = 0 then (hushlaw13_CrowdKeeps.j1 k bt235.1 bt239.1 (bt239.2 != 0) x226000 x226001) else (hushlaw13_CrowdKeeps.j1 k bt235.1 bt239.1 true x226000 x226001)))) else (none)) else (none))) else (none)))) (fun k => by first | rfl | rw [hushlaw13_CrowdKeeps.j0]) ?_
  repeat' first
    | (with_reducible exact crowd_Shuffled.F_is _ _ _ _)
    | (with_reducible exact hushlaw13_CrowdKeeps.J1_is _ _ _ _ _)
    | (with_reducible exact LimIs.const _)
    | (with_reducible refine LimIs.ite ?_ ?_)
    | (with_reducible refine LimIs.bind ?_ (fun _ => ?_))
    | exact crowd_Shuffled.F_is _ _ _ _
    | exact hushlaw13_CrowdKeeps.J1_is _ _ _ _ _
    | exact LimIs.const _
    | refine LimIs.ite ?_ ?_
    | refine LimIs.bind ?_ (fun _ => ?_)
set_option maxRecDepth 100000 in
theorem hushlaw13_CrowdKeeps.J1_eq (x12 : List (S38)) (x14 : List (S38)) (x58 : Bool) (x226000 : Int) (x226001 : Int) : hushlaw13_CrowdKeeps.J1 x12 x14 x58 x226000 x226001 = if x58 = true then (some true) else ((dist_Far.F x12 x14).bind fun bt243 => (if bt243.2.2 = 0 then ((hushref1_Most.f bt243.1 bt243.2.1 x226000 x226001).bind fun t247 => (if t247 = true then (some true) else (some (bt243.2.2 == 4)))) else (some (bt243.2.2 == 4)))) := by
  refine LimIs.step' (hushlaw13_CrowdKeeps.J1_is x12 x14 x58 x226000 x226001).1 (b := fun k => if x58 = true then (some true) else ((dist_Far.f k x12 x14).bind fun bt243 => (if bt243.2.2 = 0 then ((hushref1_Most.f bt243.1 bt243.2.1 x226000 x226001).bind fun t247 => (if t247 = true then (some true) else (some (bt243.2.2 == 4)))) else (some (bt243.2.2 == 4))))) (fun k => by first | rfl | rw [hushlaw13_CrowdKeeps.j1]) ?_
  repeat' first
    | (with_reducible exact dist_Far.F_is _ _)
    | (with_reducible exact LimIs.const _)
    | (with_reducible refine LimIs.ite ?_ ?_)
    | (with_reducible refine LimIs.bind ?_ (fun _ => ?_))
    | exact dist_Far.F_is _ _
    | exact LimIs.const _
    | refine LimIs.ite ?_ ?_
    | refine LimIs.bind ?_ (fun _ => ?_)
set_option maxRecDepth 100000 in
theorem crowd_gcd.L0_eq (x0 : Int) (x1 : Int) : crowd_gcd.L0 x0 x1 = if x1 = 0 then (some x0) else (crowd_gcd.L0 x1 (Int.tmod x0 x1)) := by
  refine LimIs.step' (crowd_gcd.L0_is x0 x1).1 (b := fun k => if x1 = 0 then (some x0) else (crowd_gcd.l0 k x1 (Int.tmod x0 x1))) (fun k => by first | rfl | rw [crowd_gcd.l0]) ?_
  repeat' first
    | (with_reducible exact crowd_gcd.L0_is _ _)
    | (with_reducible exact LimIs.const _)
    | (with_reducible refine LimIs.ite ?_ ?_)
    | (with_reducible refine LimIs.bind ?_ (fun _ => ?_))
    | exact crowd_gcd.L0_is _ _
    | exact LimIs.const _
    | refine LimIs.ite ?_ ?_
    | refine LimIs.bind ?_ (fun _ => ?_)
set_option maxRecDepth 100000 in
theorem hushlaw13_CrowdKeeps.F_eq (a0_0 : Int) (a0_1 : Int) (a1 : Int) (l2 : List Int) (a3 : Int) (a4 : Int) : hushlaw13_CrowdKeeps.F a0_0 a0_1 a1 l2 a3 a4 = (hushlaw13_alive.F).bind fun t226 => (if t226 = true then (if a3 < 0 then (hushlaw13_CrowdKeeps.J0 a1 l2 a3 a4 true a0_0 a0_1) else (if a3 ≥ (l2.length : Int) then (hushlaw13_CrowdKeeps.J0 a1 l2 a3 a4 true a0_0 a0_1) else ((hushlaw13_wide.F a1 l2).bind fun t227 => (hushlaw13_CrowdKeeps.J0 a1 l2 a3 a4 t227 a0_0 a0_1)))) else (some false)) := by
  refine LimIs.out (?_ : LimIs (fun k => (hushlaw13_alive.f k).bind fun t226 => (if t226 = true then (if a3 < 0 then (hushlaw13_CrowdKeeps.j0 k a1 l2 a3 a4 true a0_0 a0_1) else (if a3 ≥ (l2.length : Int) then (hushlaw13_CrowdKeeps.j0 k a1 l2 a3 a4 true a0_0 a0_1) else ((hushlaw13_wide.f k a1 l2).bind fun t227 => (hushlaw13_CrowdKeeps.j0 k a1 l2 a3 a4 t227 a0_0 a0_1)))) else (some false))) _)
  repeat' first
    | (with_reducible exact hushlaw13_alive.F_is)
    | (with_reducible exact hushlaw13_CrowdKeeps.J0_is _ _ _ _ _ _ _)
    | (with_reducible exact hushlaw13_wide.F_is _ _)
    | (with_reducible exact LimIs.const _)
    | (with_reducible refine LimIs.ite ?_ ?_)
    | (with_reducible refine LimIs.bind ?_ (fun _ => ?_))
    | exact hushlaw13_alive.F_is
    | exact hushlaw13_CrowdKeeps.J0_is _ _ _ _ _ _ _
    | exact hushlaw13_wide.F_is _ _
    | exact LimIs.const _
    | refine LimIs.ite ?_ ?_
    | refine LimIs.bind ?_ (fun _ => ?_)
set_option maxRecDepth 100000 in
theorem crowd_gcd.F_eq (a0 : Int) (a1 : Int) : crowd_gcd.F a0 a1 = crowd_gcd.L0 a0 a1 := by
  refine LimIs.out (?_ : LimIs (fun k => crowd_gcd.l0 k a0 a1) _)
  repeat' first
    | (with_reducible exact crowd_gcd.L0_is _ _)
    | (with_reducible exact LimIs.const _)
    | (with_reducible refine LimIs.ite ?_ ?_)
    | (with_reducible refine LimIs.bind ?_ (fun _ => ?_))
    | exact crowd_gcd.L0_is _ _
    | exact LimIs.const _
    | refine LimIs.ite ?_ ?_
    | refine LimIs.bind ?_ (fun _ => ?_)
end Go.Proofs.Ytfoolbcfpedhmaa.PA
end
section
namespace Go.Proofs.Ytfoolbcfpedhmaa.DistPure
set_option linter.unusedVariables false
set_option linter.unusedSimpArgs false
open Go.RowKit Go.Proofs.Ytfoolbcfpedhmaa.PA Go.Proofs.YtfoolbcfpedhmaaW.PrintWords Go.Proofs.YtfoolbcfpedhmaaW.PrintLast Go.Proofs.YtfoolbcfpedhmaaW.PrintMore Go.Proofs.YtfoolbcfpedhmaaW.EvKit
theorem opT_nn {a c m t : Nat} {K : List Int → Rat} (hK : ∀ o, 0 ≤ K o) (x : List Int) : 0 ≤ opT a c m t K x := by
  unfold opT
  have h := kS_le (F := fun _ => 0) (G := fun k => (((sayW a c t k : Nat) : Int) : Rat) * K (inc x k)) (n := m) (fun k _ => Rat.mul_nonneg (cast_nn (by omega)) (hK _))
  have e : ∀ n, kS (fun _ => 0) n = 0 := fun n => by
    induction n with
    | zero => rfl
    | succ n ih => rw [kS, ih]; grind
  rw [e] at h
  exact h
theorem opT_mono {a c m t : Nat} {K K' : List Int → Rat} (h : ∀ o, K o ≤ K' o) (x : List Int) : opT a c m t K x ≤ opT a c m t K' x :=
  kS_le (fun k _ => Rat.mul_le_mul_of_nonneg_left (h _) (cast_nn (by omega)))
theorem opT_mul {a c m t : Nat} (K : List Int → Rat) (r : Rat) (x : List Int) : opT a c m t (fun o => r * K o) x = r * opT a c m t K x := by
  unfold opT
  rw [← kS_mul]
  exact kS_congr (fun k _ => by grind)
theorem opT_swap {a c m t t' : Nat} (c1 : 1 ≤ c) (ca : c ≤ a) {K : List Int → Rat} (hK : ∀ o, 0 ≤ K o) (x : List Int) : opT a c m t K x ≤ ((a : Int) : Rat) / ((c : Int) : Rat) * opT a c m t' K x := by
  unfold opT
  rw [← kS_mul]
  refine kS_le (fun k _ => ?_)
  have c0 : (0 : Rat) < ((c : Int) : Rat) := by exact_mod_cast (show (0 : Int) < (c : Int) by omega)
  have c2 : ((c : Int) : Rat) ≠ 0 := by grind
  have key : (((sayW a c t k : Nat) : Int) : Rat) ≤ ((a : Int) : Rat) / ((c : Int) : Rat) * (((sayW a c t' k : Nat) : Int) : Rat) := by
    have h1 : (((sayW a c t k : Nat) : Int) : Rat) ≤ ((a : Int) : Rat) := by exact_mod_cast (show ((sayW a c t k : Nat) : Int) ≤ (a : Int) by have := (say_pos (t := t) (k := k) c1 ca).2; omega)
    have h2 : ((c : Int) : Rat) ≤ (((sayW a c t' k : Nat) : Int) : Rat) := by exact_mod_cast (show (c : Int) ≤ ((sayW a c t' k : Nat) : Int) by unfold sayW; split <;> omega)
    have h3 := Rat.mul_le_mul_of_nonneg_left h2 (show 0 ≤ ((a : Int) : Rat) / ((c : Int) : Rat) by rw [Rat.div_def]; exact Rat.mul_nonneg (cast_nn (by omega)) (Rat.le_of_lt (Rat.inv_pos.2 c0)))
    have e : ((a : Int) : Rat) / ((c : Int) : Rat) * ((c : Int) : Rat) = ((a : Int) : Rat) := by grind
    rw [e] at h3
    exact Rat.le_trans h1 h3
  have := Rat.mul_le_mul_of_nonneg_right key (hK (inc x k))
  grind
def folds (a c m : Nat) (T : List Nat) (K : List Int → Rat) : List Int → Rat := T.foldr (fun t K => opT a c m t K) K
theorem folds_nn {a c m : Nat} {K : List Int → Rat} (hK : ∀ o, 0 ≤ K o) : ∀ (T : List Nat) (x : List Int), 0 ≤ folds a c m T K x
  | [], x => hK x
  | t :: T, x => opT_nn (folds_nn hK T) x
theorem folds_set {a c m : Nat} (c1 : 1 ≤ c) (ca : c ≤ a) {K : List Int → Rat} (hK : ∀ o, 0 ≤ K o) (y : Nat) : ∀ (T : List Nat) (i : Nat) (x : List Int), folds a c m T K x ≤ ((a : Int) : Rat) / ((c : Int) : Rat) * folds a c m (T.set i y) K x ∧ folds a c m (T.set i y) K x ≤ ((a : Int) : Rat) / ((c : Int) : Rat) * folds a c m T K x
  | [], i, x => by
    have h1 : (1 : Rat) ≤ ((a : Int) : Rat) / ((c : Int) : Rat) := by
      have c0 : (0 : Rat) < ((c : Int) : Rat) := by exact_mod_cast (show (0 : Int) < (c : Int) by omega)
      have h2 : ((c : Int) : Rat) ≤ ((a : Int) : Rat) := by exact_mod_cast (show (c : Int) ≤ (a : Int) by omega)
      have h3 := Rat.mul_le_mul_of_nonneg_right h2 (Rat.le_of_lt (Rat.inv_pos.2 c0))
      have e : ((c : Int) : Rat) * ((c : Int) : Rat)⁻¹ = 1 := by grind
      rw [e] at h3
      rw [Rat.div_def]; exact h3
    have h2 := Rat.mul_le_mul_of_nonneg_right h1 (hK x)
    rw [Rat.one_mul] at h2
    exact ⟨h2, h2⟩
  | t :: T, 0, x => ⟨opT_swap c1 ca (folds_nn hK T) x, opT_swap c1 ca (folds_nn hK T) x⟩
  | t :: T, i + 1, x => by
    have ih := folds_set (m := m) c1 ca hK y T i
    have h1 := opT_mono (a := a) (c := c) (m := m) (t := t) (fun o => (ih o).1) x
    have h2 := opT_mono (a := a) (c := c) (m := m) (t := t) (fun o => (ih o).2) x
    rw [opT_mul] at h1 h2
    exact ⟨h1, h2⟩
theorem eS_le {K K' : List Int → Rat} : ∀ {l : List S38}, (∀ p ∈ l, 0 ≤ p.f1) → (∀ o, K o ≤ K' o) → eS K l ≤ eS K' l
  | [], _, _ => by rw [eS, eS]; grind
  | p :: l, h, hh => by
    have h1 := eS_le (l := l) (fun q hq => h q (by simp [hq])) hh
    have h2 := Rat.mul_le_mul_of_nonneg_left (hh p.f0) (cast_nn (h p (by simp)))
    rw [eS, eS]; grind
theorem keeps_le {a c m : Nat} (c1 : 1 ≤ c) (ca : c ≤ a) (T : List Nat) (i y : Nat) {N : Nat} (hN : 1 ≤ N) (t1 : totOf (shuf a c m T (start m)) = (N : Int)) (t2 : totOf (shuf a c m (T.set i y) (start m)) = (N : Int)) (o : List Int) :
    eE (eI o) (shuf a c m T (start m)) ≤ ((a : Int) : Rat) / ((c : Int) : Rat) * eE (eI o) (shuf a c m (T.set i y) (start m)) ∧ eE (eI o) (shuf a c m (T.set i y) (start m)) ≤ ((a : Int) : Rat) / ((c : Int) : Rat) * eE (eI o) (shuf a c m T (start m)) := by
  have hs : ∀ p ∈ start m, 0 ≤ p.f1 := fun p hp => Int.le_of_lt ((start_HI m).pos p hp)
  have hf := folds_set c1 ca (m := m) (eI_nn o) y T i
  have l1 := eS_le hs (fun x => (hf x).1)
  have l2 := eS_le hs (fun x => (hf x).2)
  rw [eS_mul] at l1 l2
  have e1 := shuf_S (eI o) a c m T (start m)
  have e2 := shuf_S (eI o) a c m (T.set i y) (start m)
  have i0 := inv_nn (show (0 : Int) < (N : Int) by omega)
  unfold eE
  rw [t1, t2, e1, e2, Rat.div_def, Rat.div_def, Rat.div_def]
  unfold folds at l1 l2
  have r1 := Rat.mul_le_mul_of_nonneg_right l1 i0
  have r2 := Rat.mul_le_mul_of_nonneg_right l2 i0
  rw [Rat.div_def] at r1 r2
  rw [Rat.mul_assoc] at r1 r2
  exact ⟨r1, r2⟩
theorem keeps_rest {u d kinds : Int} {T : List Int} (hT : T.length ≤ 17592186043904) (hw : 2 ≤ kinds → kinds.toNat ^ T.length ≤ 1048576) (who other : Int) (h0 : 0 ≤ who) (h1 : who < (T.length : Int)) : hushlaw13_CrowdKeeps.J0 kinds T who other false u d = some true := by
  have hl : (T.set who.toNat other).length = T.length := List.length_set
  have jt : ∀ x y, hushlaw13_CrowdKeeps.J1 x y true u d = some true := fun x y => by rw [hushlaw13_CrowdKeeps.J1_eq, if_pos rfl]
  rw [hushlaw13_CrowdKeeps.J0_eq, if_neg (by decide), Option.bind_some, if_pos (by rw [List.length_nil]; omega), Option.bind_some, List.nil_append, if_pos h0, if_pos h1]
  cases shuf_form u d kinds T hw with
  | bad e he hF =>
    cases shuf_form u d kinds (T.set who.toNat other) (by rw [hl]; exact hw) with
    | bad e2 he2 hF2 => rw [hF, Option.bind_some, hF2, Option.bind_some, if_neg he, jt]
    | good a c m hu hd hm c1 ca a2 hco m1 m2 hs hl2 hT2 hp hR hI hb ht hF2 => rw [hF, Option.bind_some, hF2, Option.bind_some, if_neg he, jt]
  | good a c m hu hd hm c1 ca a2 hco m1 m2 hs hl1 hT1 hp hR hI hb ht hF =>
    rw [hF, Option.bind_some]
    cases shuf_form u d kinds (T.set who.toNat other) (by rw [hl]; exact hw) with
    | bad e2 he2 hF2 =>
      rw [hF2, Option.bind_some]
      dsimp only
      rw [show (e2 != 0) = true from bne_iff_ne.2 he2]
      by_cases c3 : (makeP (shuf a c m (T.map Int.toNat) (start m))).2 = 0
      · rw [if_pos c3, jt]
      · rw [if_neg c3, jt]
    | good a' c' m' hu' hd' hm' c1' ca' a2' hco' m1' m2' hs' hl2 hT2 hp2 hR2 hI2 hb2 ht2 hF2 =>
      obtain rfl : a' = a := by omega
      obtain rfl : c' = c := by omega
      obtain rfl : m' = m := by omega
      rw [hF2, Option.bind_some]
      have em : (T.set who.toNat other).map Int.toNat = (T.map Int.toNat).set who.toNat other.toNat := List.map_set
      rw [hl] at ht2
      rw [em] at hI2 hb2 ht2 ⊢
      by_cases c3 : (makeP (shuf a' c' m' (T.map Int.toNat) (start m'))).2 = 0
      · rw [if_pos c3]
        by_cases c4 : (makeP (shuf a' c' m' ((T.map Int.toNat).set who.toNat other.toNat) (start m'))).2 = 0
        · rw [show ((makeP (shuf a' c' m' ((T.map Int.toNat).set who.toNat other.toNat) (start m'))).2 != 0) = false from by rw [c4]; rfl, hushlaw13_CrowdKeeps.J1_eq, if_neg (by decide)]
          have w1' := (make_right' c3).1
          have w2' := (make_right' c4).1
          have X : RD (makeP (shuf a' c' m' (T.map Int.toNat) (start m'))).1 := ⟨bd_right w1', w1'⟩
          have Y : RD (makeP (shuf a' c' m' ((T.map Int.toNat).set who.toNat other.toNat) (start m'))).1 := ⟨bd_right w2', w2'⟩
          have hN : 1 ≤ (a' + (m' - 1) * c') ^ T.length := Nat.pow_pos (by omega)
          have hle := keeps_le c1 ca (m := m') (T.map Int.toNat) who.toNat other.toNat hN ht ht2
          have hle2 : ∀ o, eE (eI o) (makeP (shuf a' c' m' (T.map Int.toNat) (start m'))).1 ≤ ((a' : Int) : Rat) / ((c' : Int) : Rat) * eE (eI o) (makeP (shuf a' c' m' ((T.map Int.toNat).set who.toNat other.toNat) (start m'))).1 ∧ eE (eI o) (makeP (shuf a' c' m' ((T.map Int.toNat).set who.toNat other.toNat) (start m'))).1 ≤ ((a' : Int) : Rat) / ((c' : Int) : Rat) * eE (eI o) (makeP (shuf a' c' m' (T.map Int.toNat) (start m'))).1 := fun o => by
            rw [make_E c3, make_E c4]
            exact hle o
          have hn := no_of ⟨X, Y⟩ hle2
          obtain ⟨tx, ty, s, S, es⟩ := far_mk X.bd Y.bd X.wr Y.wr hn
          have c0 : (0 : Rat) < ((c' : Int) : Rat) := by exact_mod_cast (show (0 : Int) < (c' : Int) by omega)
          have hR1 : (1 : Rat) ≤ ((a' : Int) : Rat) / ((c' : Int) : Rat) := by
            have h2 : ((c' : Int) : Rat) ≤ ((a' : Int) : Rat) := by exact_mod_cast (show (c' : Int) ≤ (a' : Int) by omega)
            have h3 := Rat.mul_le_mul_of_nonneg_right h2 (Rat.le_of_lt (Rat.inv_pos.2 c0))
            have e : ((c' : Int) : Rat) * ((c' : Int) : Rat)⁻¹ = 1 := by grind
            rw [e] at h3
            rw [Rat.div_def]; exact h3
          have hs2 := S.sup hR1 hle2
          rw [farF _ _ X.bd Y.bd, Option.bind_some, es, hu, hd]
          by_cases c5 : (farOut s).2.2 = 0
          · obtain ⟨y1, y2, y3⟩ := farOut_ok c5
            have hsp := S.mx.pos.2
            have q0 : (0 : Rat) < ((s.2 : Int) : Rat) := by exact_mod_cast (show (0 : Int) < (s.2 : Int) by omega)
            have hX : (s.1 : Int) * (c' : Int) ≤ (a' : Int) * (s.2 : Int) := by
              have h2 := Rat.mul_le_mul_of_nonneg_right hs2 (Rat.le_of_lt (Rat.mul_pos q0 c0))
              have e1 : fr s * (((s.2 : Int) : Rat) * ((c' : Int) : Rat)) = ((s.1 : Int) : Rat) * ((c' : Int) : Rat) := by unfold fr; grind
              have e2 : ((a' : Int) : Rat) / ((c' : Int) : Rat) * (((s.2 : Int) : Rat) * ((c' : Int) : Rat)) = ((a' : Int) : Rat) * ((s.2 : Int) : Rat) := by grind
              rw [e1, e2] at h2
              exact_mod_cast h2
            have m1x : (s.1 : Int) * (c' : Int) ≤ 1073741824 * 1073741824 := Int.mul_le_mul (by omega) (by omega) (by omega) (by omega)
            have m2x : (a' : Int) * (s.2 : Int) ≤ 1073741824 * 1073741824 := Int.mul_le_mul (by omega) (by omega) (by omega) (by omega)
            have n1x : 0 ≤ (s.1 : Int) * (c' : Int) := Int.mul_nonneg (by omega) (by omega)
            have n2x : 0 ≤ (a' : Int) * (s.2 : Int) := Int.mul_nonneg (by omega) (by omega)
            rw [if_pos c5, y1]
            dsimp only
            have hmost : hushref1_Most.f (s.1 : Int) (s.2 : Int) (a' : Int) (c' : Int) = some (decide ((s.1 : Int) * (c' : Int) ≤ (a' : Int) * (s.2 : Int))) := by
              unfold hushref1_Most.f
              rw [wrap64_of (by omega) (by omega), wrap64_of (by omega) (by omega)]
            rw [hmost, decide_eq_true hX, Option.bind_some, if_pos rfl]
          · have h4 : (farOut s).2.2 = 4 := by
              unfold farOut at c5 ⊢
              split
              · rfl
              · rename_i c6
                rw [if_neg c6] at c5
                exact absurd rfl c5
            rw [if_neg c5, h4]
            rfl
        · rw [show ((makeP (shuf a' c' m' ((T.map Int.toNat).set who.toNat other.toNat) (start m'))).2 != 0) = true from bne_iff_ne.2 c4, jt]
      · rw [if_neg c3, jt]
end Go.Proofs.Ytfoolbcfpedhmaa.DistPure
namespace Go.Proofs.Ytfoolbcfpedhmaa.Pure
open Go.RowKit Go.Proofs.Ytfoolbcfpedhmaa.PA Go.Proofs.YtfoolbcfpedhmaaW.PrintWords Go.Proofs.YtfoolbcfpedhmaaW.PrintLast Go.Proofs.YtfoolbcfpedhmaaW.PrintMore Go.Proofs.YtfoolbcfpedhmaaW.EvKit Go.Proofs.Ytfoolbcfpedhmaa.DistPure
theorem CrowdKeeps : hushlaw13_CrowdKeeps.Pure := by
  intro r kinds T who other h0 h1 h2 h3 h4
  refine (hushlaw13_CrowdKeeps.F_is r.f0 r.f1 kinds T who other).rounds ?_
  have hT : T.length ≤ 17592186043904 := by have := h2.2.1; omega
  have hk : kinds ≤ 9223372036854775807 := (wf64 h1).2
  clear h0 h1 h2 h3 h4
  have jt : hushlaw13_CrowdKeeps.J0 kinds T who other true r.f0 r.f1 = some true := by rw [hushlaw13_CrowdKeeps.J0_eq, if_pos rfl]
  rw [hushlaw13_CrowdKeeps.F_eq, alive13, Option.bind_some, if_pos rfl]
  by_cases c1 : who < 0
  · rw [if_pos c1, jt]
  rw [if_neg c1]
  by_cases c2 : who ≥ (T.length : Int)
  · rw [if_pos c2, jt]
  rw [if_neg c2]
  obtain ⟨b, e, hb⟩ := wideF kinds T hk (by omega)
  rw [e, Option.bind_some]
  cases b with
  | true => exact jt
  | false => exact keeps_rest hT (fun h => hb rfl h) who other (by omega) (by omega)
end Go.Proofs.Ytfoolbcfpedhmaa.Pure
end

/- The pure texts of this claim, its functions behind all rounds among them, and small steps. Conditions stand in each theorem. -/
import Derived.Test.YtjbgnlhgjgnclaaPBx10
import Derived.Test.YtjbgnlhgjgnclaaLim
import Derived.Test.YtjbgnlhgjgnclaaPBx0
import Derived.Test.YtjbgnlhgjgnclaaPBx9
import Derived.Test.YtjbgnlhgjgnclaaPBx3
import Derived.Test.YtjbgnlhgjgnclaaPBx26
import Derived.Test.YtjbgnlhgjgnclaaPBx25
import Derived.Test.YtjbgnlhgjgnclaaPBx4
import Derived.Test.YtjbgnlhgjgnclaaPBx6
import Derived.Test.YtjbgnlhgjgnclaaPBx2
import Derived.Test.YtjbgnlhgjgnclaaPBx5
import Derived.Test.YtjbgnlhgjgnclaaPBx8
import Derived.Test.YtjbgnlhgjgnclaaPBx7
import Derived.Test.YtjbgnlhgjgnclaaPBx13
import Derived.Test.YtjbgnlhgjgnclaaPBx12
import Derived.Test.YtjbgnlhgjgnclaaPBx11
import Derived.Test.YtjbgnlhgjgnclaaPBx14
import Derived.Test.YtjbgnlhgjgnclaaPBx15
import Derived.Test.YtjbgnlhgjgnclaaPBx27
import Derived.Test.YtjbgnlhgjgnclaaPBx18
import Derived.Test.YtjbgnlhgjgnclaaEvKit
import Derived.Test.YtjbgnlhgjgnclaaPBx20
import Derived.Test.YtjbgnlhgjgnclaaPBx28
import Derived.Test.YtjbgnlhgjgnclaaPBx1
section
namespace Go.Proofs.Ytjbgnlhgjgnclaa.PB
open Go.RowKit Go.Proofs.YtjbgnlhgjgnclaaW.PrintWords Go.Proofs.YtjbgnlhgjgnclaaW.PrintLast Go.Proofs.YtjbgnlhgjgnclaaW.PrintMore
open Go.Proofs.YtjbgnlhgjgnclaaW.EvKit
set_option linter.unusedVariables false
end Go.Proofs.Ytjbgnlhgjgnclaa.PB
end
section
namespace Go.Proofs.Ytjbgnlhgjgnclaa.PB
open Go.RowKit Go.Proofs.YtjbgnlhgjgnclaaW.PrintWords Go.Proofs.YtjbgnlhgjgnclaaW.PrintLast Go.Proofs.YtjbgnlhgjgnclaaW.PrintMore
open Go.Proofs.YtjbgnlhgjgnclaaW.EvKit
set_option linter.unusedVariables false
noncomputable def hushref1_Divisor.J1 (x0 : Int) (x1 : Int) (x5 : Int) : Option (Int) := lim (fun k => hushref1_Divisor.j1 k x0 x1 x5)
theorem hushref1_Divisor.J1_is (x0 : Int) (x1 : Int) (x5 : Int) : LimIs (fun k => hushref1_Divisor.j1 k x0 x1 x5) (hushref1_Divisor.J1 x0 x1 x5) := ⟨fun k => (hushref1_Divisor.mono_l k).1 x0 x1 x5, rfl⟩
noncomputable def hushref1_Divisor.L1 (x0 : Int) (x1 : Int) (x5 : Int) : Option (Int) := lim (fun k => hushref1_Divisor.l1 k x0 x1 x5)
theorem hushref1_Divisor.L1_is (x0 : Int) (x1 : Int) (x5 : Int) : LimIs (fun k => hushref1_Divisor.l1 k x0 x1 x5) (hushref1_Divisor.L1 x0 x1 x5) := ⟨fun k => (hushref1_Divisor.mono_l k).2.1 x0 x1 x5, rfl⟩
noncomputable def hushref1_Divisor.L0 (x0 : Int) (x1 : Int) (x5 : Int) : Option (Int) := lim (fun k => hushref1_Divisor.l0 k x0 x1 x5)
theorem hushref1_Divisor.L0_is (x0 : Int) (x1 : Int) (x5 : Int) : LimIs (fun k => hushref1_Divisor.l0 k x0 x1 x5) (hushref1_Divisor.L0 x0 x1 x5) := ⟨fun k => (hushref1_Divisor.mono_l k).2.2.2 x0 x1 x5, rfl⟩
noncomputable def hushref1_Divisor.F (a0 : Int) (a1 : Int) : Option (Int) := lim (fun k => hushref1_Divisor.f k a0 a1)
theorem hushref1_Divisor.F_is (a0 : Int) (a1 : Int) : LimIs (fun k => hushref1_Divisor.f k a0 a1) (hushref1_Divisor.F a0 a1) := ⟨fun k => hushref1_Divisor.mono a0 a1 k, rfl⟩
noncomputable def hushref1_Right.F (a0_0 : Int) (a0_1 : Int) : Option (Bool) := lim (fun k => hushref1_Right.f k a0_0 a0_1)
theorem hushref1_Right.F_is (a0_0 : Int) (a0_1 : Int) : LimIs (fun k => hushref1_Right.f k a0_0 a0_1) (hushref1_Right.F a0_0 a0_1) := ⟨fun k => hushref1_Right.mono a0_0 a0_1 k, rfl⟩
noncomputable def hushref6_Loss.F (a0_0 : Int) (a0_1 : Int) : Option (Int) := lim (fun k => hushref6_Loss.f k a0_0 a0_1)
theorem hushref6_Loss.F_is (a0_0 : Int) (a0_1 : Int) : LimIs (fun k => hushref6_Loss.f k a0_0 a0_1) (hushref6_Loss.F a0_0 a0_1) := ⟨fun k => hushref6_Loss.mono a0_0 a0_1 k, rfl⟩
set_option maxRecDepth 100000 in
theorem hushref1_Divisor.J1_eq (x0 : Int) (x1 : Int) (x5 : Int) : hushref1_Divisor.J1 x0 x1 x5 = hushref1_Divisor.L1 x0 x1 x5 := by
 refine LimIs.step' (hushref1_Divisor.J1_is x0 x1 x5).1 (b := fun k => hushref1_Divisor.l1 k x0 x1 x5) (fun k => by first | rfl | rw [hushref1_Divisor.j1]) ?_
 repeat' first
  | (with_reducible exact hushref1_Divisor.L1_is _ _ _)
  | (with_reducible exact LimIs.const _)
  | (with_reducible refine LimIs.ite ?_ ?_)
  | (with_reducible refine LimIs.bind ?_ (fun _ => ?_))
  | exact hushref1_Divisor.L1_is _ _ _
  | exact LimIs.const _
  | refine LimIs.ite ?_ ?_
  | refine LimIs.bind ?_ (fun _ => ?_)
set_option maxRecDepth 100000 in
theorem hushref1_Divisor.L0_eq (x0 : Int) (x1 : Int) (x5 : Int) : hushref1_Divisor.L0 x0 x1 x5 = if (Int.tmod x0 2) = 0 then (if (Int.tmod x1 2) = 0 then (hushref1_Divisor.L0 (wrap64 (Int.tdiv x0 2)) (wrap64 (Int.tdiv x1 2)) (wrap64 (x5 + 1))) else (hushref1_Divisor.J1 x0 x1 x5)) else (hushref1_Divisor.J1 x0 x1 x5) := by
 refine LimIs.step' (hushref1_Divisor.L0_is x0 x1 x5).1 (b := fun k => if (Int.tmod x0 2) = 0 then (if (Int.tmod x1 2) = 0 then (hushref1_Divisor.l0 k (wrap64 (Int.tdiv x0 2)) (wrap64 (Int.tdiv x1 2)) (wrap64 (x5 + 1))) else (hushref1_Divisor.j1 k x0 x1 x5)) else (hushref1_Divisor.j1 k x0 x1 x5)) (fun k => by first | rfl | rw [hushref1_Divisor.l0]) ?_
 repeat' first
  | (with_reducible exact hushref1_Divisor.L0_is _ _ _)
  | (with_reducible exact hushref1_Divisor.J1_is _ _ _)
  | (with_reducible exact LimIs.const _)
  | (with_reducible refine LimIs.ite ?_ ?_)
  | (with_reducible refine LimIs.bind ?_ (fun _ => ?_))
  | exact hushref1_Divisor.L0_is _ _ _
  | exact hushref1_Divisor.J1_is _ _ _
  | exact LimIs.const _
  | refine LimIs.ite ?_ ?_
  | refine LimIs.bind ?_ (fun _ => ?_)
set_option maxRecDepth 100000 in
theorem hushref1_Divisor.F_eq (a0 : Int) (a1 : Int) : hushref1_Divisor.F a0 a1 = if a0 = 0 then (some a1) else (hushref1_Divisor.L0 a0 a1 0) := by
 refine LimIs.out (?_ : LimIs (fun k => if a0 = 0 then (some a1) else (hushref1_Divisor.l0 k a0 a1 0)) _)
 repeat' first
  | (with_reducible exact hushref1_Divisor.L0_is _ _ _)
  | (with_reducible exact LimIs.const _)
  | (with_reducible refine LimIs.ite ?_ ?_)
  | (with_reducible refine LimIs.bind ?_ (fun _ => ?_))
  | exact hushref1_Divisor.L0_is _ _ _
  | exact LimIs.const _
  | refine LimIs.ite ?_ ?_
  | refine LimIs.bind ?_ (fun _ => ?_)
set_option maxRecDepth 100000 in
theorem hushref1_Right.F_eq (a0_0 : Int) (a0_1 : Int) : hushref1_Right.F a0_0 a0_1 = if a0_0 ≥ 0 then (if a0_1 ≥ 1 then (if a0_0 ≤ 1073741824 then (if a0_1 ≤ 1073741824 then ((hushref1_Divisor.F a0_0 a0_1).bind fun t185 => (some (t185 == 1))) else (some false)) else (some false)) else (some false)) else (some false) := by
 refine LimIs.out (?_ : LimIs (fun k => if a0_0 ≥ 0 then (if a0_1 ≥ 1 then (if a0_0 ≤ 1073741824 then (if a0_1 ≤ 1073741824 then ((hushref1_Divisor.f k a0_0 a0_1).bind fun t185 => (some (t185 == 1))) else (some false)) else (some false)) else (some false)) else (some false)) _)
 repeat' first
  | (with_reducible exact hushref1_Divisor.F_is _ _)
  | (with_reducible exact LimIs.const _)
  | (with_reducible refine LimIs.ite ?_ ?_)
  | (with_reducible refine LimIs.bind ?_ (fun _ => ?_))
  | exact hushref1_Divisor.F_is _ _
  | exact LimIs.const _
  | refine LimIs.ite ?_ ?_
  | refine LimIs.bind ?_ (fun _ => ?_)
set_option maxRecDepth 100000 in
theorem hushref6_Loss.F_eq (a0_0 : Int) (a0_1 : Int) : hushref6_Loss.F a0_0 a0_1 = (hushref1_Right.F a0_0 a0_1).bind fun t187 => (if t187 = true then (if a0_0 < a0_1 then (some (3 : Int)) else (some (0 : Int))) else (some (2 : Int))) := by
 refine LimIs.out (?_ : LimIs (fun k => (hushref1_Right.f k a0_0 a0_1).bind fun t187 => (if t187 = true then (if a0_0 < a0_1 then (some (3 : Int)) else (some (0 : Int))) else (some (2 : Int)))) _)
 repeat' first
  | (with_reducible exact hushref1_Right.F_is _ _)
  | (with_reducible exact LimIs.const _)
  | (with_reducible refine LimIs.ite ?_ ?_)
  | (with_reducible refine LimIs.bind ?_ (fun _ => ?_))
  | exact hushref1_Right.F_is _ _
  | exact LimIs.const _
  | refine LimIs.ite ?_ ?_
  | refine LimIs.bind ?_ (fun _ => ?_)
end Go.Proofs.Ytjbgnlhgjgnclaa.PB
end
section
namespace Go.Proofs.Ytjbgnlhgjgnclaa.PB
open Go.RowKit Go.Proofs.YtjbgnlhgjgnclaaW.PrintWords Go.Proofs.YtjbgnlhgjgnclaaW.PrintLast Go.Proofs.YtjbgnlhgjgnclaaW.PrintMore
open Go.Proofs.YtjbgnlhgjgnclaaW.EvKit
set_option linter.unusedVariables false
noncomputable def hushref2_Compare.L0 (x0 : List Int) (x1 : List Int) (x7 : Int) (x8 : Int) : Option (Int) := lim (fun k => hushref2_Compare.l0 k x0 x1 x7 x8)
theorem hushref2_Compare.L0_is (x0 : List Int) (x1 : List Int) (x7 : Int) (x8 : Int) : LimIs (fun k => hushref2_Compare.l0 k x0 x1 x7 x8) (hushref2_Compare.L0 x0 x1 x7 x8) := ⟨fun k => (hushref2_Compare.mono_l k) x0 x1 x7 x8, rfl⟩
noncomputable def hushref2_Same.L0 (x0 : List (S64)) (x1 : List (S64)) (x12 : Int) (x13 : Int) : Option (Bool) := lim (fun k => hushref2_Same.l0 k x0 x1 x12 x13)
theorem hushref2_Same.L0_is (x0 : List (S64)) (x1 : List (S64)) (x12 : Int) (x13 : Int) : LimIs (fun k => hushref2_Same.l0 k x0 x1 x12 x13) (hushref2_Same.L0 x0 x1 x12 x13) := ⟨fun k => (hushref2_Same.mono_l k) x0 x1 x12 x13, rfl⟩
noncomputable def hushref2_Compare.F (l0 : List Int) (l1 : List Int) : Option (Int) := lim (fun k => hushref2_Compare.f k l0 l1)
theorem hushref2_Compare.F_is (l0 : List Int) (l1 : List Int) : LimIs (fun k => hushref2_Compare.f k l0 l1) (hushref2_Compare.F l0 l1) := ⟨fun k => hushref2_Compare.mono l0 l1 k, rfl⟩
noncomputable def hushref2_Same.F (l0 : List (S64)) (l1 : List (S64)) : Option (Bool) := lim (fun k => hushref2_Same.f k l0 l1)
theorem hushref2_Same.F_is (l0 : List (S64)) (l1 : List (S64)) : LimIs (fun k => hushref2_Same.f k l0 l1) (hushref2_Same.F l0 l1) := ⟨fun k => hushref2_Same.mono l0 l1 k, rfl⟩
set_option maxRecDepth 100000 in
theorem hushref2_Compare.L0_eq (x0 : List Int) (x1 : List Int) (x7 : Int) (x8 : Int) : hushref2_Compare.L0 x0 x1 x7 x8 = if x8 < x7 then (if x8 ≥ (x1.length : Int) then (some 1) else (if 0 ≤ x8 then (if x8 < (x0.length : Int) then (if x8 < (x1.length : Int) then (if (rd x0 x8) = (rd x1 x8) then (hushref2_Compare.L0 x0 x1 x7 (wrap64 (x8 + 1))) else (if (rd x0 x8) < (rd x1 x8) then (some (-1)) else (some 1))) else (none)) else (none)) else (none))) else (if (x0.length : Int) < (x1.length : Int) then (some (-1)) else (some 0)) := by
 refine LimIs.step' (hushref2_Compare.L0_is x0 x1 x7 x8).1 (b := fun k => if x8 < x7 then (if x8 ≥ (x1.length : Int) then (some 1) else (if 0 ≤ x8 then (if x8 < (x0.length : Int) then (if x8 < (x1.length : Int) then (if (rd x0 x8) = (rd x1 x8) then (hushref2_Compare.l0 k x0 x1 x7 (wrap64 (x8 + 1))) else (if (rd x0 x8) < (rd x1 x8) then (some (-1)) else (some 1))) else (none)) else (none)) else (none))) else (if (x0.length : Int) < (x1.length : Int) then (some (-1)) else (some 0))) (fun k => by first | rfl | rw [hushref2_Compare.l0]) ?_
 repeat' first
  | (with_reducible exact hushref2_Compare.L0_is _ _ _ _)
  | (with_reducible exact LimIs.const _)
  | (with_reducible refine LimIs.ite ?_ ?_)
  | (with_reducible refine LimIs.bind ?_ (fun _ => ?_))
  | exact hushref2_Compare.L0_is _ _ _ _
  | exact LimIs.const _
  | refine LimIs.ite ?_ ?_
  | refine LimIs.bind ?_ (fun _ => ?_)
set_option maxRecDepth 100000 in
theorem hushref2_Same.L0_eq (x0 : List (S64)) (x1 : List (S64)) (x12 : Int) (x13 : Int) : hushref2_Same.L0 x0 x1 x12 x13 = if x13 < x12 then (if 0 ≤ x13 then (if x13 < (x0.length : Int) then (if x13 < (x1.length : Int) then (if ((rd_T64 x0 x13).f1) = ((rd_T64 x1 x13).f1) then ((hushref2_Compare.F ((rd_T64 x0 x13).f0) ((rd_T64 x1 x13).f0)).bind fun t183 => (if t183 = 0 then (hushref2_Same.L0 x0 x1 x12 (wrap64 (x13 + 1))) else (some false))) else (some false)) else (none)) else (none)) else (none)) else (some true) := by
 refine LimIs.step' (hushref2_Same.L0_is x0 x1 x12 x13).1 (b := fun k => if x13 < x12 then (if 0 ≤ x13 then (if x13 < (x0.length : Int) then (if x13 < (x1.length : Int) then (if ((rd_T64 x0 x13).f1) = ((rd_T64 x1 x13).f1) then ((hushref2_Compare.f k ((rd_T64 x0 x13).f0) ((rd_T64 x1 x13).f0)).bind fun t183 => (if t183 = 0 then (hushref2_Same.l0 k x0 x1 x12 (wrap64 (x13 + 1))) else (some false))) else (some false)) else (none)) else (none)) else (none)) else (some true)) (fun k => by first | rfl | rw [hushref2_Same.l0]) ?_
 repeat' first
  | (with_reducible exact hushref2_Compare.F_is _ _)
  | (with_reducible exact hushref2_Same.L0_is _ _ _ _)
  | (with_reducible exact LimIs.const _)
  | (with_reducible refine LimIs.ite ?_ ?_)
  | (with_reducible refine LimIs.bind ?_ (fun _ => ?_))
  | exact hushref2_Compare.F_is _ _
  | exact hushref2_Same.L0_is _ _ _ _
  | exact LimIs.const _
  | refine LimIs.ite ?_ ?_
  | refine LimIs.bind ?_ (fun _ => ?_)
set_option maxRecDepth 100000 in
theorem hushref2_Compare.F_eq (l0 : List Int) (l1 : List Int) : hushref2_Compare.F l0 l1 = hushref2_Compare.L0 l0 l1 (l0.length : Int) 0 := by
 refine LimIs.out (?_ : LimIs (fun k => hushref2_Compare.l0 k l0 l1 (l0.length : Int) 0) _)
 repeat' first
  | (with_reducible exact hushref2_Compare.L0_is _ _ _ _)
  | (with_reducible exact LimIs.const _)
  | (with_reducible refine LimIs.ite ?_ ?_)
  | (with_reducible refine LimIs.bind ?_ (fun _ => ?_))
  | exact hushref2_Compare.L0_is _ _ _ _
  | exact LimIs.const _
  | refine LimIs.ite ?_ ?_
  | refine LimIs.bind ?_ (fun _ => ?_)
set_option maxRecDepth 100000 in
theorem hushref2_Same.F_eq (l0 : List (S64)) (l1 : List (S64)) : hushref2_Same.F l0 l1 = if (l0.length : Int) = (l1.length : Int) then (hushref2_Same.L0 l0 l1 (l0.length : Int) 0) else (some false) := by
 refine LimIs.out (?_ : LimIs (fun k => if (l0.length : Int) = (l1.length : Int) then (hushref2_Same.l0 k l0 l1 (l0.length : Int) 0) else (some false)) _)
 repeat' first
  | (with_reducible exact hushref2_Same.L0_is _ _ _ _)
  | (with_reducible exact LimIs.const _)
  | (with_reducible refine LimIs.ite ?_ ?_)
  | (with_reducible refine LimIs.bind ?_ (fun _ => ?_))
  | exact hushref2_Same.L0_is _ _ _ _
  | exact LimIs.const _
  | refine LimIs.ite ?_ ?_
  | refine LimIs.bind ?_ (fun _ => ?_)
end Go.Proofs.Ytjbgnlhgjgnclaa.PB
end
section
namespace Go.Proofs.Ytjbgnlhgjgnclaa.PB
open Go.RowKit Go.Proofs.YtjbgnlhgjgnclaaW.PrintWords Go.Proofs.YtjbgnlhgjgnclaaW.PrintLast Go.Proofs.YtjbgnlhgjgnclaaW.PrintMore
open Go.Proofs.YtjbgnlhgjgnclaaW.EvKit
set_option linter.unusedVariables false
noncomputable def dist_total.L0 (x3 : Int) (x6 : List (S64)) (x7 : Int) (x8 : Int) : Option (Int) := lim (fun k => dist_total.l0 k x3 x6 x7 x8)
theorem dist_total.L0_is (x3 : Int) (x6 : List (S64)) (x7 : Int) (x8 : Int) : LimIs (fun k => dist_total.l0 k x3 x6 x7 x8) (dist_total.L0 x3 x6 x7 x8) := ⟨fun k => (dist_total.mono_l k) x3 x6 x7 x8, rfl⟩
noncomputable def dist_gcd.L0 (x0 : Int) (x1 : Int) : Option (Int) := lim (fun k => dist_gcd.l0 k x0 x1)
theorem dist_gcd.L0_is (x0 : Int) (x1 : Int) : LimIs (fun k => dist_gcd.l0 k x0 x1) (dist_gcd.L0 x0 x1) := ⟨fun k => (dist_gcd.mono_l k) x0 x1, rfl⟩
noncomputable def dist_total.F (l0 : List (S64)) : Option (Int) := lim (fun k => dist_total.f k l0)
theorem dist_total.F_is (l0 : List (S64)) : LimIs (fun k => dist_total.f k l0) (dist_total.F l0) := ⟨fun k => dist_total.mono l0 k, rfl⟩
noncomputable def dist_gcd.F (a0 : Int) (a1 : Int) : Option (Int) := lim (fun k => dist_gcd.f k a0 a1)
theorem dist_gcd.F_is (a0 : Int) (a1 : Int) : LimIs (fun k => dist_gcd.f k a0 a1) (dist_gcd.F a0 a1) := ⟨fun k => dist_gcd.mono a0 a1 k, rfl⟩
set_option maxRecDepth 100000 in
theorem dist_total.L0_eq (x3 : Int) (x6 : List (S64)) (x7 : Int) (x8 : Int) : dist_total.L0 x3 x6 x7 x8 = if x8 < x7 then (if 0 ≤ x8 then (if x8 < (x6.length : Int) then (dist_total.L0 (wrap64 (x3 + ((rd_T64 x6 x8).f1))) x6 x7 (wrap64 (x8 + 1))) else (none)) else (none)) else (some x3) := by
 refine LimIs.step' (dist_total.L0_is x3 x6 x7 x8).1 (b := fun k => if x8 < x7 then (if 0 ≤ x8 then (if x8 < (x6.length : Int) then (dist_total.l0 k (wrap64 (x3 + ((rd_T64 x6 x8).f1))) x6 x7 (wrap64 (x8 + 1))) else (none)) else (none)) else (some x3)) (fun k => by first | rfl | rw [dist_total.l0]) ?_
 repeat' first
  | (with_reducible exact dist_total.L0_is _ _ _ _)
  | (with_reducible exact LimIs.const _)
  | (with_reducible refine LimIs.ite ?_ ?_)
  | (with_reducible refine LimIs.bind ?_ (fun _ => ?_))
  | exact dist_total.L0_is _ _ _ _
  | exact LimIs.const _
  | refine LimIs.ite ?_ ?_
  | refine LimIs.bind ?_ (fun _ => ?_)
set_option maxRecDepth 100000 in
theorem dist_gcd.L0_eq (x0 : Int) (x1 : Int) : dist_gcd.L0 x0 x1 = if x1 = 0 then (some x0) else (dist_gcd.L0 x1 (Int.tmod x0 x1)) := by
 refine LimIs.step' (dist_gcd.L0_is x0 x1).1 (b := fun k => if x1 = 0 then (some x0) else (dist_gcd.l0 k x1 (Int.tmod x0 x1))) (fun k => by first | rfl | rw [dist_gcd.l0]) ?_
 repeat' first
  | (with_reducible exact dist_gcd.L0_is _ _)
  | (with_reducible exact LimIs.const _)
  | (with_reducible refine LimIs.ite ?_ ?_)
  | (with_reducible refine LimIs.bind ?_ (fun _ => ?_))
  | exact dist_gcd.L0_is _ _
  | exact LimIs.const _
  | refine LimIs.ite ?_ ?_
  | refine LimIs.bind ?_ (fun _ => ?_)
set_option maxRecDepth 100000 in
theorem dist_total.F_eq (l0 : List (S64)) : dist_total.F l0 = dist_total.L0 0 l0 (l0.length : Int) 0 := by
 refine LimIs.out (?_ : LimIs (fun k => dist_total.l0 k 0 l0 (l0.length : Int) 0) _)
 repeat' first
  | (with_reducible exact dist_total.L0_is _ _ _ _)
  | (with_reducible exact LimIs.const _)
  | (with_reducible refine LimIs.ite ?_ ?_)
  | (with_reducible refine LimIs.bind ?_ (fun _ => ?_))
  | exact dist_total.L0_is _ _ _ _
  | exact LimIs.const _
  | refine LimIs.ite ?_ ?_
  | refine LimIs.bind ?_ (fun _ => ?_)
set_option maxRecDepth 100000 in
theorem dist_gcd.F_eq (a0 : Int) (a1 : Int) : dist_gcd.F a0 a1 = dist_gcd.L0 a0 a1 := by
 refine LimIs.out (?_ : LimIs (fun k => dist_gcd.l0 k a0 a1) _)
 repeat' first
  | (with_reducible exact dist_gcd.L0_is _ _)
  | (with_reducible exact LimIs.const _)
  | (with_reducible refine LimIs.ite ?_ ?_)
  | (with_reducible refine LimIs.bind ?_ (fun _ => ?_))
  | exact dist_gcd.L0_is _ _
  | exact LimIs.const _
  | refine LimIs.ite ?_ ?_
  | refine LimIs.bind ?_ (fun _ => ?_)
end Go.Proofs.Ytjbgnlhgjgnclaa.PB
end
section
namespace Go.Proofs.Ytjbgnlhgjgnclaa.PB
open Go.RowKit Go.Proofs.YtjbgnlhgjgnclaaW.PrintWords Go.Proofs.YtjbgnlhgjgnclaaW.PrintLast Go.Proofs.YtjbgnlhgjgnclaaW.PrintMore
open Go.Proofs.YtjbgnlhgjgnclaaW.EvKit
set_option linter.unusedVariables false
noncomputable def slices_Compare_int_int.L0 (x0 : List Int) (x1 : List Int) (x9 : List Int) (x10 : Int) (x11 : Int) : Option (Int) := lim (fun k => slices_Compare_int_int.l0 k x0 x1 x9 x10 x11)
theorem slices_Compare_int_int.L0_is (x0 : List Int) (x1 : List Int) (x9 : List Int) (x10 : Int) (x11 : Int) : LimIs (fun k => slices_Compare_int_int.l0 k x0 x1 x9 x10 x11) (slices_Compare_int_int.L0 x0 x1 x9 x10 x11) := ⟨fun k => (slices_Compare_int_int.mono_l k) x0 x1 x9 x10 x11, rfl⟩
noncomputable def slices_Equal_int_int.L0 (x0 : List Int) (x1 : List Int) (x12 : Int) (x13 : Int) : Option (Bool) := lim (fun k => slices_Equal_int_int.l0 k x0 x1 x12 x13)
theorem slices_Equal_int_int.L0_is (x0 : List Int) (x1 : List Int) (x12 : Int) (x13 : Int) : LimIs (fun k => slices_Equal_int_int.l0 k x0 x1 x12 x13) (slices_Equal_int_int.L0 x0 x1 x12 x13) := ⟨fun k => (slices_Equal_int_int.mono_l k) x0 x1 x12 x13, rfl⟩
noncomputable def slices_Compare_int_int.F (l0 : List Int) (l1 : List Int) : Option (Int) := lim (fun k => slices_Compare_int_int.f k l0 l1)
theorem slices_Compare_int_int.F_is (l0 : List Int) (l1 : List Int) : LimIs (fun k => slices_Compare_int_int.f k l0 l1) (slices_Compare_int_int.F l0 l1) := ⟨fun k => slices_Compare_int_int.mono l0 l1 k, rfl⟩
noncomputable def slices_Equal_int_int.F (l0 : List Int) (l1 : List Int) : Option (Bool) := lim (fun k => slices_Equal_int_int.f k l0 l1)
theorem slices_Equal_int_int.F_is (l0 : List Int) (l1 : List Int) : LimIs (fun k => slices_Equal_int_int.f k l0 l1) (slices_Equal_int_int.F l0 l1) := ⟨fun k => slices_Equal_int_int.mono l0 l1 k, rfl⟩
set_option maxRecDepth 100000 in
theorem slices_Compare_int_int.L0_eq (x0 : List Int) (x1 : List Int) (x9 : List Int) (x10 : Int) (x11 : Int) : slices_Compare_int_int.L0 x0 x1 x9 x10 x11 = if x11 < x10 then (if 0 ≤ x11 then (if x11 < (x9.length : Int) then (if x11 ≥ (x1.length : Int) then (some 1) else (if x11 < (x1.length : Int) then ((cmp_Compare_int.f (rd x9 x11) (rd x1 x11)).bind fun t115 => (if t115 = 0 then (slices_Compare_int_int.L0 x0 x1 x9 x10 (wrap64 (x11 + 1))) else (some t115))) else (none))) else (none)) else (none)) else (if (x0.length : Int) < (x1.length : Int) then (some (-1)) else (some 0)) := by
 refine LimIs.step' (slices_Compare_int_int.L0_is x0 x1 x9 x10 x11).1 (b := fun k => if x11 < x10 then (if 0 ≤ x11 then (if x11 < (x9.length : Int) then (if x11 ≥ (x1.length : Int) then (some 1) else (if x11 < (x1.length : Int) then ((cmp_Compare_int.f (rd x9 x11) (rd x1 x11)).bind fun t115 => (if t115 = 0 then (slices_Compare_int_int.l0 k x0 x1 x9 x10 (wrap64 (x11 + 1))) else (some t115))) else (none))) else (none)) else (none)) else (if (x0.length : Int) < (x1.length : Int) then (some (-1)) else (some 0))) (fun k => by first | rfl | rw [slices_Compare_int_int.l0]) ?_
 repeat' first
  | (with_reducible exact slices_Compare_int_int.L0_is _ _ _ _ _)
  | (with_reducible exact LimIs.const _)
  | (with_reducible refine LimIs.ite ?_ ?_)
  | (with_reducible refine LimIs.bind ?_ (fun _ => ?_))
  | exact slices_Compare_int_int.L0_is _ _ _ _ _
  | exact LimIs.const _
  | refine LimIs.ite ?_ ?_
  | refine LimIs.bind ?_ (fun _ => ?_)
set_option maxRecDepth 100000 in
theorem slices_Equal_int_int.L0_eq (x0 : List Int) (x1 : List Int) (x12 : Int) (x13 : Int) : slices_Equal_int_int.L0 x0 x1 x12 x13 = if x13 < x12 then (if 0 ≤ x13 then (if x13 < (x0.length : Int) then (if x13 < (x1.length : Int) then (if (rd x0 x13) = (rd x1 x13) then (slices_Equal_int_int.L0 x0 x1 x12 (wrap64 (x13 + 1))) else (some false)) else (none)) else (none)) else (none)) else (some true) := by
 refine LimIs.step' (slices_Equal_int_int.L0_is x0 x1 x12 x13).1 (b := fun k => if x13 < x12 then (if 0 ≤ x13 then (if x13 < (x0.length : Int) then (if x13 < (x1.length : Int) then (if (rd x0 x13) = (rd x1 x13) then (slices_Equal_int_int.l0 k x0 x1 x12 (wrap64 (x13 + 1))) else (some false)) else (none)) else (none)) else (none)) else (some true)) (fun k => by first | rfl | rw [slices_Equal_int_int.l0]) ?_
 repeat' first
  | (with_reducible exact slices_Equal_int_int.L0_is _ _ _ _)
  | (with_reducible exact LimIs.const _)
  | (with_reducible refine LimIs.ite ?_ ?_)
  | (with_reducible refine LimIs.bind ?_ (fun _ => ?_))
  | exact slices_Equal_int_int.L0_is _ _ _ _
  | exact LimIs.const _
  | refine LimIs.ite ?_ ?_
  | refine LimIs.bind ?_ (fun _ => ?_)
set_option maxRecDepth 100000 in
theorem slices_Compare_int_int.F_eq (l0 : List Int) (l1 : List Int) : slices_Compare_int_int.F l0 l1 = slices_Compare_int_int.L0 l0 l1 l0 (l0.length : Int) 0 := by
 refine LimIs.out (?_ : LimIs (fun k => slices_Compare_int_int.l0 k l0 l1 l0 (l0.length : Int) 0) _)
 repeat' first
  | (with_reducible exact slices_Compare_int_int.L0_is _ _ _ _ _)
  | (with_reducible exact LimIs.const _)
  | (with_reducible refine LimIs.ite ?_ ?_)
  | (with_reducible refine LimIs.bind ?_ (fun _ => ?_))
  | exact slices_Compare_int_int.L0_is _ _ _ _ _
  | exact LimIs.const _
  | refine LimIs.ite ?_ ?_
  | refine LimIs.bind ?_ (fun _ => ?_)
set_option maxRecDepth 100000 in
theorem slices_Equal_int_int.F_eq (l0 : List Int) (l1 : List Int) : slices_Equal_int_int.F l0 l1 = if (l0.length : Int) = (l1.length : Int) then (slices_Equal_int_int.L0 l0 l1 (l0.length : Int) 0) else (some false) := by
 refine LimIs.out (?_ : LimIs (fun k => if (l0.length : Int) = (l1.length : Int) then (slices_Equal_int_int.l0 k l0 l1 (l0.length : Int) 0) else (some false)) _)
 repeat' first
  | (with_reducible exact slices_Equal_int_int.L0_is _ _ _ _)
  | (with_reducible exact LimIs.const _)
  | (with_reducible refine LimIs.ite ?_ ?_)
  | (with_reducible refine LimIs.bind ?_ (fun _ => ?_))
  | exact slices_Equal_int_int.L0_is _ _ _ _
  | exact LimIs.const _
  | refine LimIs.ite ?_ ?_
  | refine LimIs.bind ?_ (fun _ => ?_)
end Go.Proofs.Ytjbgnlhgjgnclaa.PB
end
section
namespace Go.Proofs.Ytjbgnlhgjgnclaa.PB
open Go.RowKit Go.Proofs.YtjbgnlhgjgnclaaW.PrintWords Go.Proofs.YtjbgnlhgjgnclaaW.PrintLast Go.Proofs.YtjbgnlhgjgnclaaW.PrintMore
open Go.Proofs.YtjbgnlhgjgnclaaW.EvKit
set_option linter.unusedVariables false
noncomputable def ratio_gcd.L0 (x0 : Int) (x1 : Int) : Option (Int) := lim (fun k => ratio_gcd.l0 k x0 x1)
theorem ratio_gcd.L0_is (x0 : Int) (x1 : Int) : LimIs (fun k => ratio_gcd.l0 k x0 x1) (ratio_gcd.L0 x0 x1) := ⟨fun k => (ratio_gcd.mono_l k) x0 x1, rfl⟩
noncomputable def slices_IndexFunc_int_int.L0 (x0 : List Int) (x7 : Int) (x8 : Int) : Option (Int) := lim (fun k => slices_IndexFunc_int_int.l0 k x0 x7 x8)
theorem slices_IndexFunc_int_int.L0_is (x0 : List Int) (x7 : Int) (x8 : Int) : LimIs (fun k => slices_IndexFunc_int_int.l0 k x0 x7 x8) (slices_IndexFunc_int_int.L0 x0 x7 x8) := ⟨fun k => (slices_IndexFunc_int_int.mono_l k) x0 x7 x8, rfl⟩
noncomputable def ratio_gcd.F (a0 : Int) (a1 : Int) : Option (Int) := lim (fun k => ratio_gcd.f k a0 a1)
theorem ratio_gcd.F_is (a0 : Int) (a1 : Int) : LimIs (fun k => ratio_gcd.f k a0 a1) (ratio_gcd.F a0 a1) := ⟨fun k => ratio_gcd.mono a0 a1 k, rfl⟩
noncomputable def ratio_Right.F (a0_0 : Int) (a0_1 : Int) : Option (Bool) := lim (fun k => ratio_Right.f k a0_0 a0_1)
theorem ratio_Right.F_is (a0_0 : Int) (a0_1 : Int) : LimIs (fun k => ratio_Right.f k a0_0 a0_1) (ratio_Right.F a0_0 a0_1) := ⟨fun k => ratio_Right.mono a0_0 a0_1 k, rfl⟩
noncomputable def noise_loss.F (a0_0 : Int) (a0_1 : Int) : Option (Int) := lim (fun k => noise_loss.f k a0_0 a0_1)
theorem noise_loss.F_is (a0_0 : Int) (a0_1 : Int) : LimIs (fun k => noise_loss.f k a0_0 a0_1) (noise_loss.F a0_0 a0_1) := ⟨fun k => noise_loss.mono a0_0 a0_1 k, rfl⟩
noncomputable def slices_IndexFunc_int_int.F (l0 : List Int) (a1 : Int) : Option (Int) := lim (fun k => slices_IndexFunc_int_int.f k l0 a1)
theorem slices_IndexFunc_int_int.F_is (l0 : List Int) (a1 : Int) : LimIs (fun k => slices_IndexFunc_int_int.f k l0 a1) (slices_IndexFunc_int_int.F l0 a1) := ⟨fun k => slices_IndexFunc_int_int.mono l0 a1 k, rfl⟩
noncomputable def slices_ContainsFunc_int_int.F (l0 : List Int) (a1 : Int) : Option (Bool) := lim (fun k => slices_ContainsFunc_int_int.f k l0 a1)
theorem slices_ContainsFunc_int_int.F_is (l0 : List Int) (a1 : Int) : LimIs (fun k => slices_ContainsFunc_int_int.f k l0 a1) (slices_ContainsFunc_int_int.F l0 a1) := ⟨fun k => slices_ContainsFunc_int_int.mono l0 a1 k, rfl⟩
noncomputable def dist_small.F (l0 : List Int) : Option (Bool) := lim (fun k => dist_small.f k l0)
theorem dist_small.F_is (l0 : List Int) : LimIs (fun k => dist_small.f k l0) (dist_small.F l0) := ⟨fun k => dist_small.mono l0 k, rfl⟩
set_option maxRecDepth 100000 in
theorem ratio_gcd.L0_eq (x0 : Int) (x1 : Int) : ratio_gcd.L0 x0 x1 = if x1 = 0 then (some x0) else (ratio_gcd.L0 x1 (Int.tmod x0 x1)) := by
 refine LimIs.step' (ratio_gcd.L0_is x0 x1).1 (b := fun k => if x1 = 0 then (some x0) else (ratio_gcd.l0 k x1 (Int.tmod x0 x1))) (fun k => by first | rfl | rw [ratio_gcd.l0]) ?_
 repeat' first
  | (with_reducible exact ratio_gcd.L0_is _ _)
  | (with_reducible exact LimIs.const _)
  | (with_reducible refine LimIs.ite ?_ ?_)
  | (with_reducible refine LimIs.bind ?_ (fun _ => ?_))
  | exact ratio_gcd.L0_is _ _
  | exact LimIs.const _
  | refine LimIs.ite ?_ ?_
  | refine LimIs.bind ?_ (fun _ => ?_)
set_option maxRecDepth 100000 in
theorem slices_IndexFunc_int_int.L0_eq (x0 : List Int) (x7 : Int) (x8 : Int) : slices_IndexFunc_int_int.L0 x0 x7 x8 = if x8 < x7 then (if 0 ≤ x8 then (if x8 < (x0.length : Int) then ((dist_small_1.f (rd x0 x8)).bind fun t106 => (if t106 = true then (some x8) else (slices_IndexFunc_int_int.L0 x0 x7 (wrap64 (x8 + 1))))) else (none)) else (none)) else (some (-1)) := by
 refine LimIs.step' (slices_IndexFunc_int_int.L0_is x0 x7 x8).1 (b := fun k => if x8 < x7 then (if 0 ≤ x8 then (if x8 < (x0.length : Int) then ((dist_small_1.f (rd x0 x8)).bind fun t106 => (if t106 = true then (some x8) else (slices_IndexFunc_int_int.l0 k x0 x7 (wrap64 (x8 + 1))))) else (none)) else (none)) else (some (-1))) (fun k => by first | rfl | rw [slices_IndexFunc_int_int.l0]) ?_
 repeat' first
  | (with_reducible exact slices_IndexFunc_int_int.L0_is _ _ _)
  | (with_reducible exact LimIs.const _)
  | (with_reducible refine LimIs.ite ?_ ?_)
  | (with_reducible refine LimIs.bind ?_ (fun _ => ?_))
  | exact slices_IndexFunc_int_int.L0_is _ _ _
  | exact LimIs.const _
  | refine LimIs.ite ?_ ?_
  | refine LimIs.bind ?_ (fun _ => ?_)
set_option maxRecDepth 100000 in
theorem ratio_gcd.F_eq (a0 : Int) (a1 : Int) : ratio_gcd.F a0 a1 = ratio_gcd.L0 a0 a1 := by
 refine LimIs.out (?_ : LimIs (fun k => ratio_gcd.l0 k a0 a1) _)
 repeat' first
  | (with_reducible exact ratio_gcd.L0_is _ _)
  | (with_reducible exact LimIs.const _)
  | (with_reducible refine LimIs.ite ?_ ?_)
  | (with_reducible refine LimIs.bind ?_ (fun _ => ?_))
  | exact ratio_gcd.L0_is _ _
  | exact LimIs.const _
  | refine LimIs.ite ?_ ?_
  | refine LimIs.bind ?_ (fun _ => ?_)
set_option maxRecDepth 100000 in
theorem ratio_Right.F_eq (a0_0 : Int) (a0_1 : Int) : ratio_Right.F a0_0 a0_1 = if a0_0 ≥ 0 then (if a0_1 ≥ 1 then (if a0_0 ≤ 1073741824 then (if a0_1 ≤ 1073741824 then ((ratio_gcd.F a0_0 a0_1).bind fun t102 => (some (t102 == 1))) else (some false)) else (some false)) else (some false)) else (some false) := by
 refine LimIs.out (?_ : LimIs (fun k => if a0_0 ≥ 0 then (if a0_1 ≥ 1 then (if a0_0 ≤ 1073741824 then (if a0_1 ≤ 1073741824 then ((ratio_gcd.f k a0_0 a0_1).bind fun t102 => (some (t102 == 1))) else (some false)) else (some false)) else (some false)) else (some false)) _)
 repeat' first
  | (with_reducible exact ratio_gcd.F_is _ _)
  | (with_reducible exact LimIs.const _)
  | (with_reducible refine LimIs.ite ?_ ?_)
  | (with_reducible refine LimIs.bind ?_ (fun _ => ?_))
  | exact ratio_gcd.F_is _ _
  | exact LimIs.const _
  | refine LimIs.ite ?_ ?_
  | refine LimIs.bind ?_ (fun _ => ?_)
set_option maxRecDepth 100000 in
theorem noise_loss.F_eq (a0_0 : Int) (a0_1 : Int) : noise_loss.F a0_0 a0_1 = (ratio_Right.F a0_0 a0_1).bind fun t104 => (if t104 = true then (if a0_0 < a0_1 then (some (3 : Int)) else (some (0 : Int))) else (some (2 : Int))) := by
 refine LimIs.out (?_ : LimIs (fun k => (ratio_Right.f k a0_0 a0_1).bind fun t104 => (if t104 = true then (if a0_0 < a0_1 then (some (3 : Int)) else (some (0 : Int))) else (some (2 : Int)))) _)
 repeat' first
  | (with_reducible exact ratio_Right.F_is _ _)
  | (with_reducible exact LimIs.const _)
  | (with_reducible refine LimIs.ite ?_ ?_)
  | (with_reducible refine LimIs.bind ?_ (fun _ => ?_))
  | exact ratio_Right.F_is _ _
  | exact LimIs.const _
  | refine LimIs.ite ?_ ?_
  | refine LimIs.bind ?_ (fun _ => ?_)
set_option maxRecDepth 100000 in
theorem slices_IndexFunc_int_int.F_eq (l0 : List Int) (a1 : Int) : slices_IndexFunc_int_int.F l0 a1 = slices_IndexFunc_int_int.L0 l0 (l0.length : Int) 0 := by
 refine LimIs.out (?_ : LimIs (fun k => slices_IndexFunc_int_int.l0 k l0 (l0.length : Int) 0) _)
 repeat' first
  | (with_reducible exact slices_IndexFunc_int_int.L0_is _ _ _)
  | (with_reducible exact LimIs.const _)
  | (with_reducible refine LimIs.ite ?_ ?_)
  | (with_reducible refine LimIs.bind ?_ (fun _ => ?_))
  | exact slices_IndexFunc_int_int.L0_is _ _ _
  | exact LimIs.const _
  | refine LimIs.ite ?_ ?_
  | refine LimIs.bind ?_ (fun _ => ?_)
set_option maxRecDepth 100000 in
theorem slices_ContainsFunc_int_int.F_eq (l0 : List Int) (a1 : Int) : slices_ContainsFunc_int_int.F l0 a1 = (slices_IndexFunc_int_int.F l0 a1).bind fun t107 => (some (decide (t107 ≥ 0))) := by
 refine LimIs.out (?_ : LimIs (fun k => (slices_IndexFunc_int_int.f k l0 a1).bind fun t107 => (some (decide (t107 ≥ 0)))) _)
 repeat' first
  | (with_reducible exact slices_IndexFunc_int_int.F_is _ _)
  | (with_reducible exact LimIs.const _)
  | (with_reducible refine LimIs.ite ?_ ?_)
  | (with_reducible refine LimIs.bind ?_ (fun _ => ?_))
  | exact slices_IndexFunc_int_int.F_is _ _
  | exact LimIs.const _
  | refine LimIs.ite ?_ ?_
  | refine LimIs.bind ?_ (fun _ => ?_)
set_option maxRecDepth 100000 in
theorem dist_small.F_eq (l0 : List Int) : dist_small.F l0 = if (l0.length : Int) ≤ 16 then ((slices_ContainsFunc_int_int.F l0 990000075).bind fun t108 => (some (!t108))) else (some false) := by
 refine LimIs.out (?_ : LimIs (fun k => if (l0.length : Int) ≤ 16 then ((slices_ContainsFunc_int_int.f k l0 990000075).bind fun t108 => (some (!t108))) else (some false)) _)
 repeat' first
  | (with_reducible exact slices_ContainsFunc_int_int.F_is _ _)
  | (with_reducible exact LimIs.const _)
  | (with_reducible refine LimIs.ite ?_ ?_)
  | (with_reducible refine LimIs.bind ?_ (fun _ => ?_))
  | exact slices_ContainsFunc_int_int.F_is _ _
  | exact LimIs.const _
  | refine LimIs.ite ?_ ?_
  | refine LimIs.bind ?_ (fun _ => ?_)
end Go.Proofs.Ytjbgnlhgjgnclaa.PB
end
section
namespace Go.Proofs.Ytjbgnlhgjgnclaa.PB
open Go.RowKit Go.Proofs.YtjbgnlhgjgnclaaW.PrintWords Go.Proofs.YtjbgnlhgjgnclaaW.PrintLast Go.Proofs.YtjbgnlhgjgnclaaW.PrintMore
open Go.Proofs.YtjbgnlhgjgnclaaW.EvKit
set_option linter.unusedVariables false
noncomputable def dist_tidy.F (l0 : List S64) : Option (List S64 × Int) := lim (fun k => dist_tidy.f k l0)
theorem dist_tidy.F_is (l0 : List S64) : LimIs (fun k => dist_tidy.f k l0) (dist_tidy.F l0) := ⟨fun k => dist_tidy.mono l0 k, rfl⟩
set_option maxRecDepth 100000 in
theorem dist_tidy.F_eq (l0 : List S64) : dist_tidy.F l0 = if tGuard l0 = true then some (tDone (tMerge (sortP l0))) else none := by
 refine LimIs.out (?_ : LimIs (fun k => if tGuard l0 = true then some (tDone (tMerge (sortP l0))) else none) _)
 repeat' first
  | (with_reducible exact LimIs.const _)
  | (with_reducible refine LimIs.ite ?_ ?_)
  | (with_reducible refine LimIs.bind ?_ (fun _ => ?_))
  | exact LimIs.const _
  | refine LimIs.ite ?_ ?_
  | refine LimIs.bind ?_ (fun _ => ?_)
end Go.Proofs.Ytjbgnlhgjgnclaa.PB
end
section
namespace Go.Proofs.Ytjbgnlhgjgnclaa.PB
open Go.RowKit Go.Proofs.YtjbgnlhgjgnclaaW.PrintWords Go.Proofs.YtjbgnlhgjgnclaaW.PrintLast Go.Proofs.YtjbgnlhgjgnclaaW.PrintMore
open Go.Proofs.YtjbgnlhgjgnclaaW.EvKit
set_option linter.unusedVariables false
noncomputable def dist_Make.L0 (x4 : List (S64)) (x7 : List (S64)) (x8 : Int) (x9 : Int) : Option ((List (S64)) × Int) := lim (fun k => dist_Make.l0 k x4 x7 x8 x9)
theorem dist_Make.L0_is (x4 : List (S64)) (x7 : List (S64)) (x8 : Int) (x9 : Int) : LimIs (fun k => dist_Make.l0 k x4 x7 x8 x9) (dist_Make.L0 x4 x7 x8 x9) := ⟨fun k => (dist_Make.mono_l k) x4 x7 x8 x9, rfl⟩
noncomputable def noise_power.L0 (x0 : Int) (x5 : Int) (x6 : Int) (x7 : Int) : Option (Int) := lim (fun k => noise_power.l0 k x0 x5 x6 x7)
theorem noise_power.L0_is (x0 : Int) (x5 : Int) (x6 : Int) (x7 : Int) : LimIs (fun k => noise_power.l0 k x0 x5 x6 x7) (noise_power.L0 x0 x5 x6 x7) := ⟨fun k => (noise_power.mono_l k) x0 x5 x6 x7, rfl⟩
noncomputable def dist_Make.F (l0 : List (S64)) : Option ((List (S64)) × Int) := lim (fun k => dist_Make.f k l0)
theorem dist_Make.F_is (l0 : List (S64)) : LimIs (fun k => dist_Make.f k l0) (dist_Make.F l0) := ⟨fun k => dist_Make.mono l0 k, rfl⟩
noncomputable def dist_Sure.F (l0 : List Int) : Option ((List (S64)) × Int) := lim (fun k => dist_Sure.f k l0)
theorem dist_Sure.F_is (l0 : List Int) : LimIs (fun k => dist_Sure.f k l0) (dist_Sure.F l0) := ⟨fun k => dist_Sure.mono l0 k, rfl⟩
noncomputable def noise_power.F (a0 : Int) (a1 : Int) : Option (Int) := lim (fun k => noise_power.f k a0 a1)
theorem noise_power.F_is (a0 : Int) (a1 : Int) : LimIs (fun k => noise_power.f k a0 a1) (noise_power.F a0 a1) := ⟨fun k => noise_power.mono a0 a1 k, rfl⟩
set_option maxRecDepth 100000 in
theorem dist_Make.L0_eq (x4 : List (S64)) (x7 : List (S64)) (x8 : Int) (x9 : Int) : dist_Make.L0 x4 x7 x8 x9 = if x9 < x8 then (if 0 ≤ x9 then (if x9 < (x7.length : Int) then ((dist_small.F ((rd_T64 x7 x9).f0)).bind fun t124 => (if t124 = true then (if ((rd_T64 x7 x9).f1) < 0 then (some (([] : List (S64)), 3)) else (if ((rd_T64 x7 x9).f1) > 1073741824 then (some (([] : List (S64)), 3)) else ((slices_Clone_int_int.f ((rd_T64 x7 x9).f0)).bind fun t125 => (if x4.length < 4398046511104 then (dist_Make.L0 (x4 ++ [(⟨t125, (rd_T64 x7 x9).f1⟩ : S64)]) x7 x8 (wrap64 (x9 + 1))) else (none))))) else (some (([] : List (S64)), 3)))) else (none)) else (none)) else ((dist_tidy.F x4).bind fun bt118 => (some (bt118.1, bt118.2))) := by
 refine LimIs.step' (dist_Make.L0_is x4 x7 x8 x9).1 (b := fun k => if x9 < x8 then (if 0 ≤ x9 then (if x9 < (x7.length : Int) then ((dist_small.f k ((rd_T64 x7 x9).f0)).bind fun t124 => (if t124 = true then (if ((rd_T64 x7 x9).f1) < 0 then (some (([] : List (S64)), 3)) else (if ((rd_T64 x7 x9).f1) > 1073741824 then (some (([] : List (S64)), 3)) else ((slices_Clone_int_int.f ((rd_T64 x7 x9).f0)).bind fun t125 => (if x4.length < 4398046511104 then (dist_Make.l0 k (x4 ++ [(⟨t125, (rd_T64 x7 x9).f1⟩ : S64)]) x7 x8 (wrap64 (x9 + 1))) else (none))))) else (some (([] : List (S64)), 3)))) else (none)) else (none)) else ((dist_tidy.f k x4).bind fun bt118 => (some (bt118.1, bt118.2)))) (fun k => by first | rfl | rw [dist_Make.l0]) ?_
 repeat' first
  | (with_reducible exact dist_small.F_is _)
  | (with_reducible exact dist_Make.L0_is _ _ _ _)
  | (with_reducible exact dist_tidy.F_is _)
  | (with_reducible exact LimIs.const _)
  | (with_reducible refine LimIs.ite ?_ ?_)
  | (with_reducible refine LimIs.bind ?_ (fun _ => ?_))
  | exact dist_small.F_is _
  | exact dist_Make.L0_is _ _ _ _
  | exact dist_tidy.F_is _
  | exact LimIs.const _
  | refine LimIs.ite ?_ ?_
  | refine LimIs.bind ?_ (fun _ => ?_)
set_option maxRecDepth 100000 in
theorem noise_power.L0_eq (x0 : Int) (x5 : Int) (x6 : Int) (x7 : Int) : noise_power.L0 x0 x5 x6 x7 = if x7 < x6 then (if (wrap64 (x5 * x0)) > 1073741824 then (some 1073741825) else (noise_power.L0 x0 (wrap64 (x5 * x0)) x6 (wrap64 (x7 + 1)))) else (some x5) := by
 refine LimIs.step' (noise_power.L0_is x0 x5 x6 x7).1 (b := fun k => if x7 < x6 then (if (wrap64 (x5 * x0)) > 1073741824 then (some 1073741825) else (noise_power.l0 k x0 (wrap64 (x5 * x0)) x6 (wrap64 (x7 + 1)))) else (some x5)) (fun k => by first | rfl | rw [noise_power.l0]) ?_
 repeat' first
  | (with_reducible exact noise_power.L0_is _ _ _ _)
  | (with_reducible exact LimIs.const _)
  | (with_reducible refine LimIs.ite ?_ ?_)
  | (with_reducible refine LimIs.bind ?_ (fun _ => ?_))
  | exact noise_power.L0_is _ _ _ _
  | exact LimIs.const _
  | refine LimIs.ite ?_ ?_
  | refine LimIs.bind ?_ (fun _ => ?_)
set_option maxRecDepth 100000 in
theorem dist_Make.F_eq (l0 : List (S64)) : dist_Make.F l0 = dist_Make.L0 ([] : List (S64)) l0 (l0.length : Int) 0 := by
 refine LimIs.out (?_ : LimIs (fun k => dist_Make.l0 k ([] : List (S64)) l0 (l0.length : Int) 0) _)
 repeat' first
  | (with_reducible exact dist_Make.L0_is _ _ _ _)
  | (with_reducible exact LimIs.const _)
  | (with_reducible refine LimIs.ite ?_ ?_)
  | (with_reducible refine LimIs.bind ?_ (fun _ => ?_))
  | exact dist_Make.L0_is _ _ _ _
  | exact LimIs.const _
  | refine LimIs.ite ?_ ?_
  | refine LimIs.bind ?_ (fun _ => ?_)
set_option maxRecDepth 100000 in
theorem dist_Sure.F_eq (l0 : List Int) : dist_Sure.F l0 = (dist_Make.F (([(⟨l0, 1⟩ : S64)] : List (S64)))).bind fun bt134 => (some (bt134.1, bt134.2)) := by
 refine LimIs.out (?_ : LimIs (fun k => (dist_Make.f k (([(⟨l0, 1⟩ : S64)] : List (S64)))).bind fun bt134 => (some (bt134.1, bt134.2))) _)
 repeat' first
  | (with_reducible exact dist_Make.F_is _)
  | (with_reducible exact LimIs.const _)
  | (with_reducible refine LimIs.ite ?_ ?_)
  | (with_reducible refine LimIs.bind ?_ (fun _ => ?_))
  | exact dist_Make.F_is _
  | exact LimIs.const _
  | refine LimIs.ite ?_ ?_
  | refine LimIs.bind ?_ (fun _ => ?_)
set_option maxRecDepth 100000 in
theorem noise_power.F_eq (a0 : Int) (a1 : Int) : noise_power.F a0 a1 = noise_power.L0 a0 1 a1 0 := by
 refine LimIs.out (?_ : LimIs (fun k => noise_power.l0 k a0 1 a1 0) _)
 repeat' first
  | (with_reducible exact noise_power.L0_is _ _ _ _)
  | (with_reducible exact LimIs.const _)
  | (with_reducible refine LimIs.ite ?_ ?_)
  | (with_reducible refine LimIs.bind ?_ (fun _ => ?_))
  | exact noise_power.L0_is _ _ _ _
  | exact LimIs.const _
  | refine LimIs.ite ?_ ?_
  | refine LimIs.bind ?_ (fun _ => ?_)
end Go.Proofs.Ytjbgnlhgjgnclaa.PB
end
section
namespace Go.Proofs.Ytjbgnlhgjgnclaa.PB
open Go.RowKit Go.Proofs.YtjbgnlhgjgnclaaW.PrintWords Go.Proofs.YtjbgnlhgjgnclaaW.PrintLast Go.Proofs.YtjbgnlhgjgnclaaW.PrintMore
open Go.Proofs.YtjbgnlhgjgnclaaW.EvKit
set_option linter.unusedVariables false
noncomputable def noise_ways.L0 (x1 : Int) (x2 : Int) (x7 : List Int) (x14 : Int) (x15 : Int) (x139000 : Int) (x139001 : Int) : Option (List Int) := lim (fun k => noise_ways.l0 k x1 x2 x7 x14 x15 x139000 x139001)
theorem noise_ways.L0_is (x1 : Int) (x2 : Int) (x7 : List Int) (x14 : Int) (x15 : Int) (x139000 : Int) (x139001 : Int) : LimIs (fun k => noise_ways.l0 k x1 x2 x7 x14 x15 x139000 x139001) (noise_ways.L0 x1 x2 x7 x14 x15 x139000 x139001) := ⟨fun k => (noise_ways.mono_l k) x1 x2 x7 x14 x15 x139000 x139001, rfl⟩
noncomputable def noise_ways.F (a0_0 : Int) (a0_1 : Int) (a1 : Int) (a2 : Int) : Option (List Int) := lim (fun k => noise_ways.f k a0_0 a0_1 a1 a2)
theorem noise_ways.F_is (a0_0 : Int) (a0_1 : Int) (a1 : Int) (a2 : Int) : LimIs (fun k => noise_ways.f k a0_0 a0_1 a1 a2) (noise_ways.F a0_0 a0_1 a1 a2) := ⟨fun k => noise_ways.mono a0_0 a0_1 a1 a2 k, rfl⟩
set_option maxRecDepth 100000 in
theorem noise_ways.L0_eq (x1 : Int) (x2 : Int) (x7 : List Int) (x14 : Int) (x15 : Int) (x139000 : Int) (x139001 : Int) : noise_ways.L0 x1 x2 x7 x14 x15 x139000 x139001 = if x15 < x14 then ((noise_power.F x139001 (mx (wrap64 (x15 - x2)) (wrap64 (x2 - x15)))).bind fun t142 => ((noise_power.F x139000 (wrap64 (x1 - (mx (wrap64 (x15 - x2)) (wrap64 (x2 - x15)))))).bind fun t143 => (if 0 ≤ x15 then (if x15 < (x7.length : Int) then ((some (x7.set (x15 : Int).toNat (wrap64 (t142 * t143)) : List Int)).bind fun y144 => (if x15 = 0 then (noise_ways.L0 x1 x2 (y144.set (x15 : Int).toNat (wrap64 ((rd y144 x15) * x139000))) x14 (wrap64 (x15 + 1)) x139000 x139001) else (if x15 = x1 then (noise_ways.L0 x1 x2 (y144.set (x15 : Int).toNat (wrap64 ((rd y144 x15) * x139000))) x14 (wrap64 (x15 + 1)) x139000 x139001) else (noise_ways.L0 x1 x2 (y144.set (x15 : Int).toNat (wrap64 ((rd y144 x15) * (wrap64 (x139000 - x139001))))) x14 (wrap64 (x15 + 1)) x139000 x139001)))) else (none)) else (none)))) else (some x7) := by
 refine LimIs.step' (noise_ways.L0_is x1 x2 x7 x14 x15 x139000 x139001).1 (b := fun k => if x15 < x14 then ((noise_power.f k x139001 (mx (wrap64 (x15 - x2)) (wrap64 (x2 - x15)))).bind fun t142 => ((noise_power.f k x139000 (wrap64 (x1 - (mx (wrap64 (x15 - x2)) (wrap64 (x2 - x15)))))).bind fun t143 => (if 0 ≤ x15 then (if x15 < (x7.length : Int) then ((some (x7.set (x15 : Int).toNat (wrap64 (t142 * t143)) : List Int)).bind fun y144 => (if x15 = 0 then (noise_ways.l0 k x1 x2 (y144.set (x15 : Int).toNat (wrap64 ((rd y144 x15) * x139000))) x14 (wrap64 (x15 + 1)) x139000 x139001) else (if x15 = x1 then (noise_ways.l0 k x1 x2 (y144.set (x15 : Int).toNat (wrap64 ((rd y144 x15) * x139000))) x14 (wrap64 (x15 + 1)) x139000 x139001) else (noise_ways.l0 k x1 x2 (y144.set (x15 : Int).toNat (wrap64 ((rd y144 x15) * (wrap64 (x139000 - x139001))))) x14 (wrap64 (x15 + 1)) x139000 x139001)))) else (none)) else (none)))) else (some x7)) (fun k => by first | rfl | rw [noise_ways.l0]) ?_
 repeat' first
  | (with_reducible exact noise_power.F_is _ _)
  | (with_reducible exact noise_ways.L0_is _ _ _ _ _ _ _)
  | (with_reducible exact LimIs.const _)
  | (with_reducible refine LimIs.ite ?_ ?_)
  | (with_reducible refine LimIs.bind ?_ (fun _ => ?_))
  | exact noise_power.F_is _ _
  | exact noise_ways.L0_is _ _ _ _ _ _ _
  | exact LimIs.const _
  | refine LimIs.ite ?_ ?_
  | refine LimIs.bind ?_ (fun _ => ?_)
set_option maxRecDepth 100000 in
theorem noise_ways.F_eq (a0_0 : Int) (a0_1 : Int) (a1 : Int) (a2 : Int) : noise_ways.F a0_0 a0_1 a1 a2 = if 0 ≤ (wrap64 (a1 + 1)) then (if (wrap64 (a1 + 1) : Int).toNat ≤ 35184372088832 then ((some (List.replicate (wrap64 (a1 + 1) : Int).toNat 0 : List Int)).bind fun y139 => (noise_ways.L0 a1 a2 y139 (y139.length : Int) 0 a0_0 a0_1)) else (none)) else (none) := by
 refine LimIs.out (?_ : LimIs (fun k => if 0 ≤ (wrap64 (a1 + 1)) then (if (wrap64 (a1 + 1) : Int).toNat ≤ 35184372088832 then ((some (List.replicate (wrap64 (a1 + 1) : Int).toNat 0 : List Int)).bind fun y139 => (noise_ways.l0 k a1 a2 y139 (y139.length : Int) 0 a0_0 a0_1)) else (none)) else (none)) _)
 repeat' first
  | (with_reducible exact noise_ways.L0_is _ _ _ _ _ _ _)
  | (with_reducible exact LimIs.const _)
  | (with_reducible refine LimIs.ite ?_ ?_)
  | (with_reducible refine LimIs.bind ?_ (fun _ => ?_))
  | exact noise_ways.L0_is _ _ _ _ _ _ _
  | exact LimIs.const _
  | refine LimIs.ite ?_ ?_
  | refine LimIs.bind ?_ (fun _ => ?_)
end Go.Proofs.Ytjbgnlhgjgnclaa.PB
end
section
namespace Go.Proofs.Ytjbgnlhgjgnclaa.PB
open Go.RowKit Go.Proofs.YtjbgnlhgjgnclaaW.PrintWords Go.Proofs.YtjbgnlhgjgnclaaW.PrintLast Go.Proofs.YtjbgnlhgjgnclaaW.PrintMore
open Go.Proofs.YtjbgnlhgjgnclaaW.EvKit
set_option linter.unusedVariables false
noncomputable def noise_Hide.J0 (x1 : Int) (x2 : Int) (x3 : Int) (x37 : Bool) (x152000 : Int) (x152001 : Int) : Option ((List (S64)) × Int) := lim (fun k => noise_Hide.j0 k x1 x2 x3 x37 x152000 x152001)
theorem noise_Hide.J0_is (x1 : Int) (x2 : Int) (x3 : Int) (x37 : Bool) (x152000 : Int) (x152001 : Int) : LimIs (fun k => noise_Hide.j0 k x1 x2 x3 x37 x152000 x152001) (noise_Hide.J0 x1 x2 x3 x37 x152000 x152001) := ⟨fun k => (noise_Hide.mono_l k).1 x1 x2 x3 x37 x152000 x152001, rfl⟩
noncomputable def noise_Hide.J1 (x1 : Int) (x2 : Int) (x3 : Int) (x63 : Bool) (x152000 : Int) (x152001 : Int) : Option ((List (S64)) × Int) := lim (fun k => noise_Hide.j1 k x1 x2 x3 x63 x152000 x152001)
theorem noise_Hide.J1_is (x1 : Int) (x2 : Int) (x3 : Int) (x63 : Bool) (x152000 : Int) (x152001 : Int) : LimIs (fun k => noise_Hide.j1 k x1 x2 x3 x63 x152000 x152001) (noise_Hide.J1 x1 x2 x3 x63 x152000 x152001) := ⟨fun k => (noise_Hide.mono_l k).2.1 x1 x2 x3 x63 x152000 x152001, rfl⟩
noncomputable def noise_Hide.L0 (x1 : Int) (x13 : List (S64)) (x76 : List Int) (x77 : Int) (x78 : Int) : Option ((List (S64)) × Int) := lim (fun k => noise_Hide.l0 k x1 x13 x76 x77 x78)
theorem noise_Hide.L0_is (x1 : Int) (x13 : List (S64)) (x76 : List Int) (x77 : Int) (x78 : Int) : LimIs (fun k => noise_Hide.l0 k x1 x13 x76 x77 x78) (noise_Hide.L0 x1 x13 x76 x77 x78) := ⟨fun k => (noise_Hide.mono_l k).2.2 x1 x13 x76 x77 x78, rfl⟩
noncomputable def noise_Hide.F (a0_0 : Int) (a0_1 : Int) (a1 : Int) (a2 : Int) (a3 : Int) : Option ((List (S64)) × Int) := lim (fun k => noise_Hide.f k a0_0 a0_1 a1 a2 a3)
theorem noise_Hide.F_is (a0_0 : Int) (a0_1 : Int) (a1 : Int) (a2 : Int) (a3 : Int) : LimIs (fun k => noise_Hide.f k a0_0 a0_1 a1 a2 a3) (noise_Hide.F a0_0 a0_1 a1 a2 a3) := ⟨fun k => noise_Hide.mono a0_0 a0_1 a1 a2 a3 k, rfl⟩
set_option maxRecDepth 100000 in
theorem noise_Hide.J0_eq (x1 : Int) (x2 : Int) (x3 : Int) (x37 : Bool) (x152000 : Int) (x152001 : Int) : noise_Hide.J0 x1 x2 x3 x37 x152000 x152001 = if x37 = true then (some (([] : List (S64)), 3)) else (if x1 = x2 then ((dist_Sure.F (([x1] : List Int))).bind fun bt156 => (some (bt156.1, bt156.2))) else ((noise_power.F x152000 (wrap64 (x2 - x1))).bind fun t160 => (if t160 > 1073741824 then (noise_Hide.J1 x1 x2 x3 true x152000 x152001) else (noise_Hide.J1 x1 x2 x3 (decide ((wrap64 (t160 * (wrap64 (x152000 + x152001)))) > 1073741824)) x152000 x152001)))) := by
 refine LimIs.step' (noise_Hide.J0_is x1 x2 x3 x37 x152000 x152001).1 (b := fun k => if x37 = true then (some (([] : List (S64)), 3)) else (if x1 = x2 then ((dist_Sure.f k (([x1] : List Int))).bind fun bt156 => (some (bt156.1, bt156.2))) else ((noise_power.f k x152000 (wrap64 (x2 - x1))).bind fun t160 => (if t160 > 1073741824 then (noise_Hide.j1 k x1 x2 x3 true x152000 x152001) else (noise_Hide.j1 k x1 x2 x3 (decide ((wrap64 (t160 * (wrap64 (x152000 + x152001)))) > 1073741824)) x152000 x152001))))) (fun k => by first | rfl | rw [noise_Hide.j0]) ?_
 repeat' first
  | (with_reducible exact dist_Sure.F_is _)
  | (with_reducible exact noise_power.F_is _ _)
  | (with_reducible exact noise_Hide.J1_is _ _ _ _ _ _)
  | (with_reducible exact LimIs.const _)
  | (with_reducible refine LimIs.ite ?_ ?_)
  | (with_reducible refine LimIs.bind ?_ (fun _ => ?_))
  | exact dist_Sure.F_is _
  | exact noise_power.F_is _ _
  | exact noise_Hide.J1_is _ _ _ _ _ _
  | exact LimIs.const _
  | refine LimIs.ite ?_ ?_
  | refine LimIs.bind ?_ (fun _ => ?_)
set_option maxRecDepth 100000 in
theorem noise_Hide.J1_eq (x1 : Int) (x2 : Int) (x3 : Int) (x63 : Bool) (x152000 : Int) (x152001 : Int) : noise_Hide.J1 x1 x2 x3 x63 x152000 x152001 = if x63 = true then (some (([] : List (S64)), 4)) else ((noise_ways.F x152000 x152001 (wrap64 (x2 - x1)) (wrap64 ((mn (mx x3 x1) x2) - x1))).bind fun t161 => (noise_Hide.L0 x1 ([] : List (S64)) t161 (t161.length : Int) 0)) := by
 refine LimIs.step' (noise_Hide.J1_is x1 x2 x3 x63 x152000 x152001).1 (b := fun k => if x63 = true then (some (([] : List (S64)), 4)) else ((noise_ways.f k x152000 x152001 (wrap64 (x2 - x1)) (wrap64 ((mn (mx x3 x1) x2) - x1))).bind fun t161 => (noise_Hide.l0 k x1 ([] : List (S64)) t161 (t161.length : Int) 0))) (fun k => by first | rfl | rw [noise_Hide.j1]) ?_
 repeat' first
  | (with_reducible exact noise_ways.F_is _ _ _ _)
  | (with_reducible exact noise_Hide.L0_is _ _ _ _ _)
  | (with_reducible exact LimIs.const _)
  | (with_reducible refine LimIs.ite ?_ ?_)
  | (with_reducible refine LimIs.bind ?_ (fun _ => ?_))
  | exact noise_ways.F_is _ _ _ _
  | exact noise_Hide.L0_is _ _ _ _ _
  | exact LimIs.const _
  | refine LimIs.ite ?_ ?_
  | refine LimIs.bind ?_ (fun _ => ?_)
set_option maxRecDepth 100000 in
theorem noise_Hide.L0_eq (x1 : Int) (x13 : List (S64)) (x76 : List Int) (x77 : Int) (x78 : Int) : noise_Hide.L0 x1 x13 x76 x77 x78 = if x78 < x77 then (if 0 ≤ x78 then (if x78 < (x76.length : Int) then (if x13.length < 4398046511104 then (noise_Hide.L0 x1 (x13 ++ [(⟨(([wrap64 (x1 + x78)] : List Int)), rd x76 x78⟩ : S64)]) x76 x77 (wrap64 (x78 + 1))) else (none)) else (none)) else (none)) else ((dist_Make.F x13).bind fun bt171 => (some (bt171.1, bt171.2))) := by
 refine LimIs.step' (noise_Hide.L0_is x1 x13 x76 x77 x78).1 (b := fun k => if x78 < x77 then (if 0 ≤ x78 then (if x78 < (x76.length : Int) then (if x13.length < 4398046511104 then (noise_Hide.l0 k x1 (x13 ++ [(⟨(([wrap64 (x1 + x78)] : List Int)), rd x76 x78⟩ : S64)]) x76 x77 (wrap64 (x78 + 1))) else (none)) else (none)) else (none)) else ((dist_Make.f k x13).bind fun bt171 => (some (bt171.1, bt171.2)))) (fun k => by first | rfl | rw [noise_Hide.l0]) ?_
 repeat' first
  | (with_reducible exact noise_Hide.L0_is _ _ _ _ _)
  | (with_reducible exact dist_Make.F_is _)
  | (with_reducible exact LimIs.const _)
  | (with_reducible refine LimIs.ite ?_ ?_)
  | (with_reducible refine LimIs.bind ?_ (fun _ => ?_))
  | exact noise_Hide.L0_is _ _ _ _ _
  | exact dist_Make.F_is _
  | exact LimIs.const _
  | refine LimIs.ite ?_ ?_
  | refine LimIs.bind ?_ (fun _ => ?_)
set_option maxRecDepth 100000 in
theorem noise_Hide.F_eq (a0_0 : Int) (a0_1 : Int) (a1 : Int) (a2 : Int) (a3 : Int) : noise_Hide.F a0_0 a0_1 a1 a2 a3 = (noise_loss.F a0_0 a0_1).bind fun t152 => (if t152 = 0 then (if a1 < (-1073741824) then (noise_Hide.J0 a1 a2 a3 true a0_0 a0_1) else (if a2 > 1073741824 then (noise_Hide.J0 a1 a2 a3 true a0_0 a0_1) else (if a1 > a2 then (noise_Hide.J0 a1 a2 a3 true a0_0 a0_1) else (noise_Hide.J0 a1 a2 a3 (decide ((wrap64 (a2 - a1)) > 64)) a0_0 a0_1)))) else (some (([] : List (S64)), t152))) := by
 refine LimIs.out (?_ : LimIs (fun k => (noise_loss.f k a0_0 a0_1).bind fun t152 => (if t152 = 0 then (if a1 < (-1073741824) then (noise_Hide.j0 k a1 a2 a3 true a0_0 a0_1) else (if a2 > 1073741824 then (noise_Hide.j0 k a1 a2 a3 true a0_0 a0_1) else (if a1 > a2 then (noise_Hide.j0 k a1 a2 a3 true a0_0 a0_1) else (noise_Hide.j0 k a1 a2 a3 (decide ((wrap64 (a2 - a1)) > 64)) a0_0 a0_1)))) else (some (([] : List (S64)), t152)))) _)
 repeat' first
  | (with_reducible exact noise_loss.F_is _ _)
  | (with_reducible exact noise_Hide.J0_is _ _ _ _ _ _)
  | (with_reducible exact LimIs.const _)
  | (with_reducible refine LimIs.ite ?_ ?_)
  | (with_reducible refine LimIs.bind ?_ (fun _ => ?_))
  | exact noise_loss.F_is _ _
  | exact noise_Hide.J0_is _ _ _ _ _ _
  | exact LimIs.const _
  | refine LimIs.ite ?_ ?_
  | refine LimIs.bind ?_ (fun _ => ?_)
end Go.Proofs.Ytjbgnlhgjgnclaa.PB
end
section
namespace Go.Proofs.Ytjbgnlhgjgnclaa.PB
open Go.RowKit Go.Proofs.YtjbgnlhgjgnclaaW.PrintWords Go.Proofs.YtjbgnlhgjgnclaaW.PrintLast Go.Proofs.YtjbgnlhgjgnclaaW.PrintMore
open Go.Proofs.YtjbgnlhgjgnclaaW.EvKit
set_option linter.unusedVariables false
noncomputable def api_Part.L0 (x1 : List (S64)) (x15 : List (S64)) (x16 : Int) (x17 : Int) : Option (Bool) := lim (fun k => api_Part.l0 k x1 x15 x16 x17)
theorem api_Part.L0_is (x1 : List (S64)) (x15 : List (S64)) (x16 : Int) (x17 : Int) : LimIs (fun k => api_Part.l0 k x1 x15 x16 x17) (api_Part.L0 x1 x15 x16 x17) := ⟨fun k => (api_Part.mono_l k) x1 x15 x16 x17, rfl⟩
noncomputable def hushlaw6_alive.F : Option (Bool) := lim (fun k => hushlaw6_alive.f k)
theorem hushlaw6_alive.F_is : LimIs (fun k => hushlaw6_alive.f k) (hushlaw6_alive.F) := ⟨fun k => hushlaw6_alive.mono k, rfl⟩
noncomputable def dist_same_1.F (l0_0 : List Int) (a0_1 : Int) (l1_0 : List Int) (a1_1 : Int) : Option (Bool) := lim (fun k => dist_same_1.f k l0_0 a0_1 l1_0 a1_1)
theorem dist_same_1.F_is (l0_0 : List Int) (a0_1 : Int) (l1_0 : List Int) (a1_1 : Int) : LimIs (fun k => dist_same_1.f k l0_0 a0_1 l1_0 a1_1) (dist_same_1.F l0_0 a0_1 l1_0 a1_1) := ⟨fun k => dist_same_1.mono l0_0 a0_1 l1_0 a1_1 k, rfl⟩
noncomputable def api_Part.F (l0 : List (S64)) (l1 : List (S64)) (a2 : Int) : Option (Bool) := lim (fun k => api_Part.f k l0 l1 a2)
theorem api_Part.F_is (l0 : List (S64)) (l1 : List (S64)) (a2 : Int) : LimIs (fun k => api_Part.f k l0 l1 a2) (api_Part.F l0 l1 a2) := ⟨fun k => api_Part.mono l0 l1 a2 k, rfl⟩
noncomputable def dist_same.F (l0 : List (S64)) (l1 : List (S64)) : Option (Bool) := lim (fun k => dist_same.f k l0 l1)
theorem dist_same.F_is (l0 : List (S64)) (l1 : List (S64)) : LimIs (fun k => dist_same.f k l0 l1) (dist_same.F l0 l1) := ⟨fun k => dist_same.mono l0 l1 k, rfl⟩
noncomputable def dist_Wrong.F (l0 : List (S64)) : Option (Int) := lim (fun k => dist_Wrong.f k l0)
theorem dist_Wrong.F_is (l0 : List (S64)) : LimIs (fun k => dist_Wrong.f k l0) (dist_Wrong.F l0) := ⟨fun k => dist_Wrong.mono l0 k, rfl⟩
set_option maxRecDepth 100000 in
theorem api_Part.L0_eq (x1 : List (S64)) (x15 : List (S64)) (x16 : Int) (x17 : Int) : api_Part.L0 x1 x15 x16 x17 = if x17 < x16 then (if 0 ≤ x17 then (if x17 < (x15.length : Int) then (if x17 < (x1.length : Int) then ((dist_same_1.F ((rd_T64 x15 x17).f0) ((rd_T64 x15 x17).f1) ((rd_T64 x1 x17).f0) ((rd_T64 x1 x17).f1)).bind fun t399 => (if t399 = true then (api_Part.L0 x1 x15 x16 (wrap64 (x17 + 1))) else (some false))) else (none)) else (none)) else (none)) else (some true) := by
 refine LimIs.step' (api_Part.L0_is x1 x15 x16 x17).1 (b := fun k => if x17 < x16 then (if 0 ≤ x17 then (if x17 < (x15.length : Int) then (if x17 < (x1.length : Int) then ((dist_same_1.f k ((rd_T64 x15 x17).f0) ((rd_T64 x15 x17).f1) ((rd_T64 x1 x17).f0) ((rd_T64 x1 x17).f1)).bind fun t399 => (if t399 = true then (api_Part.l0 k x1 x15 x16 (wrap64 (x17 + 1))) else (some false))) else (none)) else (none)) else (none)) else (some true)) (fun k => by first | rfl | rw [api_Part.l0]) ?_
 repeat' first
  | (with_reducible exact dist_same_1.F_is _ _ _ _)
  | (with_reducible exact api_Part.L0_is _ _ _ _)
  | (with_reducible exact LimIs.const _)
  | (with_reducible refine LimIs.ite ?_ ?_)
  | (with_reducible refine LimIs.bind ?_ (fun _ => ?_))
  | exact dist_same_1.F_is _ _ _ _
  | exact api_Part.L0_is _ _ _ _
  | exact LimIs.const _
  | refine LimIs.ite ?_ ?_
  | refine LimIs.bind ?_ (fun _ => ?_)
set_option maxRecDepth 100000 in
theorem hushlaw6_alive.F_eq : hushlaw6_alive.F = (noise_Hide.F 2 1 0 1 0).bind fun bt388 => (if bt388.2 = 0 then (some ((bt388.1.length : Int) == 2)) else (some false)) := by
 refine LimIs.out (?_ : LimIs (fun k => (noise_Hide.f k 2 1 0 1 0).bind fun bt388 => (if bt388.2 = 0 then (some ((bt388.1.length : Int) == 2)) else (some false))) _)
 repeat' first
  | (with_reducible exact noise_Hide.F_is _ _ _ _ _)
  | (with_reducible exact LimIs.const _)
  | (with_reducible refine LimIs.ite ?_ ?_)
  | (with_reducible refine LimIs.bind ?_ (fun _ => ?_))
  | exact noise_Hide.F_is _ _ _ _ _
  | exact LimIs.const _
  | refine LimIs.ite ?_ ?_
  | refine LimIs.bind ?_ (fun _ => ?_)
set_option maxRecDepth 100000 in
theorem dist_same_1.F_eq (l0_0 : List Int) (a0_1 : Int) (l1_0 : List Int) (a1_1 : Int) : dist_same_1.F l0_0 a0_1 l1_0 a1_1 = if a0_1 = a1_1 then ((slices_Equal_int_int.F l0_0 l1_0).bind fun t394 => (some t394)) else (some false) := by
 refine LimIs.out (?_ : LimIs (fun k => if a0_1 = a1_1 then ((slices_Equal_int_int.f k l0_0 l1_0).bind fun t394 => (some t394)) else (some false)) _)
 repeat' first
  | (with_reducible exact slices_Equal_int_int.F_is _ _)
  | (with_reducible exact LimIs.const _)
  | (with_reducible refine LimIs.ite ?_ ?_)
  | (with_reducible refine LimIs.bind ?_ (fun _ => ?_))
  | exact slices_Equal_int_int.F_is _ _
  | exact LimIs.const _
  | refine LimIs.ite ?_ ?_
  | refine LimIs.bind ?_ (fun _ => ?_)
set_option maxRecDepth 100000 in
theorem api_Part.F_eq (l0 : List (S64)) (l1 : List (S64)) (a2 : Int) : api_Part.F l0 l1 a2 = if (l0.length : Int) = (l1.length : Int) then (api_Part.L0 l1 l0 (l0.length : Int) 0) else (some false) := by
 refine LimIs.out (?_ : LimIs (fun k => if (l0.length : Int) = (l1.length : Int) then (api_Part.l0 k l1 l0 (l0.length : Int) 0) else (some false)) _)
 repeat' first
  | (with_reducible exact api_Part.L0_is _ _ _ _)
  | (with_reducible exact LimIs.const _)
  | (with_reducible refine LimIs.ite ?_ ?_)
  | (with_reducible refine LimIs.bind ?_ (fun _ => ?_))
  | exact api_Part.L0_is _ _ _ _
  | exact LimIs.const _
  | refine LimIs.ite ?_ ?_
  | refine LimIs.bind ?_ (fun _ => ?_)
set_option maxRecDepth 100000 in
theorem dist_same.F_eq (l0 : List (S64)) (l1 : List (S64)) : dist_same.F l0 l1 = (api_Part.F l0 l1 990000109).bind fun t400 => (some t400) := by
 refine LimIs.out (?_ : LimIs (fun k => (api_Part.f k l0 l1 990000109).bind fun t400 => (some t400)) _)
 repeat' first
  | (with_reducible exact api_Part.F_is _ _ _)
  | (with_reducible exact LimIs.const _)
  | (with_reducible refine LimIs.ite ?_ ?_)
  | (with_reducible refine LimIs.bind ?_ (fun _ => ?_))
  | exact api_Part.F_is _ _ _
  | exact LimIs.const _
  | refine LimIs.ite ?_ ?_
  | refine LimIs.bind ?_ (fun _ => ?_)
set_option maxRecDepth 100000 in
theorem dist_Wrong.F_eq (l0 : List (S64)) : dist_Wrong.F l0 = (dist_Make.F l0).bind fun bt401 => (if bt401.2 = 0 then ((dist_same.F l0 bt401.1).bind fun t405 => (if t405 = true then (some bt401.2) else (some (2 : Int)))) else (some bt401.2)) := by
 refine LimIs.out (?_ : LimIs (fun k => (dist_Make.f k l0).bind fun bt401 => (if bt401.2 = 0 then ((dist_same.f k l0 bt401.1).bind fun t405 => (if t405 = true then (some bt401.2) else (some (2 : Int)))) else (some bt401.2))) _)
 repeat' first
  | (with_reducible exact dist_Make.F_is _)
  | (with_reducible exact dist_same.F_is _ _)
  | (with_reducible exact LimIs.const _)
  | (with_reducible refine LimIs.ite ?_ ?_)
  | (with_reducible refine LimIs.bind ?_ (fun _ => ?_))
  | exact dist_Make.F_is _
  | exact dist_same.F_is _ _
  | exact LimIs.const _
  | refine LimIs.ite ?_ ?_
  | refine LimIs.bind ?_ (fun _ => ?_)
end Go.Proofs.Ytjbgnlhgjgnclaa.PB
end
section
namespace Go.Proofs.Ytjbgnlhgjgnclaa.PB
open Go.RowKit Go.Proofs.YtjbgnlhgjgnclaaW.PrintWords Go.Proofs.YtjbgnlhgjgnclaaW.PrintLast Go.Proofs.YtjbgnlhgjgnclaaW.PrintMore
open Go.Proofs.YtjbgnlhgjgnclaaW.EvKit
set_option linter.unusedVariables false
noncomputable def dist_wrongs.L0 (x6 : List (List (S64))) (x7 : Int) (x8 : Int) : Option (Int) := lim (fun k => dist_wrongs.l0 k x6 x7 x8)
theorem dist_wrongs.L0_is (x6 : List (List (S64))) (x7 : Int) (x8 : Int) : LimIs (fun k => dist_wrongs.l0 k x6 x7 x8) (dist_wrongs.L0 x6 x7 x8) := ⟨fun k => (dist_wrongs.mono_l k) x6 x7 x8, rfl⟩
noncomputable def dist_more.L0 (x0 : Int) (x1 : Int) (x2 : Int) (x3 : Int) : Option (Bool) := lim (fun k => dist_more.l0 k x0 x1 x2 x3)
theorem dist_more.L0_is (x0 : Int) (x1 : Int) (x2 : Int) (x3 : Int) : LimIs (fun k => dist_more.l0 k x0 x1 x2 x3) (dist_more.L0 x0 x1 x2 x3) := ⟨fun k => (dist_more.mono_l k) x0 x1 x2 x3, rfl⟩
noncomputable def dist_wrongs.F (l0 : List (List (S64))) : Option (Int) := lim (fun k => dist_wrongs.f k l0)
theorem dist_wrongs.F_is (l0 : List (List (S64))) : LimIs (fun k => dist_wrongs.f k l0) (dist_wrongs.F l0) := ⟨fun k => dist_wrongs.mono l0 k, rfl⟩
noncomputable def dist_more.F (a0 : Int) (a1 : Int) (a2 : Int) (a3 : Int) : Option (Bool) := lim (fun k => dist_more.f k a0 a1 a2 a3)
theorem dist_more.F_is (a0 : Int) (a1 : Int) (a2 : Int) (a3 : Int) : LimIs (fun k => dist_more.f k a0 a1 a2 a3) (dist_more.F a0 a1 a2 a3) := ⟨fun k => dist_more.mono a0 a1 a2 a3 k, rfl⟩
set_option maxRecDepth 100000 in
theorem dist_wrongs.L0_eq (x6 : List (List (S64))) (x7 : Int) (x8 : Int) : dist_wrongs.L0 x6 x7 x8 = if x8 < x7 then (if 0 ≤ x8 then (if x8 < (x6.length : Int) then ((dist_Wrong.F (rd_L3 x6 x8)).bind fun t407 => (if t407 = 0 then (dist_wrongs.L0 x6 x7 (wrap64 (x8 + 1))) else (some t407))) else (none)) else (none)) else (some 0) := by
 refine LimIs.step' (dist_wrongs.L0_is x6 x7 x8).1 (b := fun k => if x8 < x7 then (if 0 ≤ x8 then (if x8 < (x6.length : Int) then ((dist_Wrong.f k (rd_L3 x6 x8)).bind fun t407 => (if t407 = 0 then (dist_wrongs.l0 k x6 x7 (wrap64 (x8 + 1))) else (some t407))) else (none)) else (none)) else (some 0)) (fun k => by first | rfl | rw [dist_wrongs.l0]) ?_
 repeat' first
  | (with_reducible exact dist_Wrong.F_is _)
  | (with_reducible exact dist_wrongs.L0_is _ _ _)
  | (with_reducible exact LimIs.const _)
  | (with_reducible refine LimIs.ite ?_ ?_)
  | (with_reducible refine LimIs.bind ?_ (fun _ => ?_))
  | exact dist_Wrong.F_is _
  | exact dist_wrongs.L0_is _ _ _
  | exact LimIs.const _
  | refine LimIs.ite ?_ ?_
  | refine LimIs.bind ?_ (fun _ => ?_)
set_option maxRecDepth 100000 in
theorem dist_more.L0_eq (x0 : Int) (x1 : Int) (x2 : Int) (x3 : Int) : dist_more.L0 x0 x1 x2 x3 = if x1 = 0 then (none) else (if x3 = 0 then (none) else (if (wrap64 (Int.tdiv x0 x1)) = (wrap64 (Int.tdiv x2 x3)) then (if (Int.tmod x0 x1) = 0 then (some (decide ((Int.tmod x0 x1) > 0))) else (if (Int.tmod x2 x3) = 0 then (some (decide ((Int.tmod x0 x1) > 0))) else (dist_more.L0 x3 (Int.tmod x2 x3) x1 (Int.tmod x0 x1)))) else (some (decide ((wrap64 (Int.tdiv x0 x1)) > (wrap64 (Int.tdiv x2 x3))))))) := by
 refine LimIs.step' (dist_more.L0_is x0 x1 x2 x3).1 (b := fun k => if x1 = 0 then (none) else (if x3 = 0 then (none) else (if (wrap64 (Int.tdiv x0 x1)) = (wrap64 (Int.tdiv x2 x3)) then (if (Int.tmod x0 x1) = 0 then (some (decide ((Int.tmod x0 x1) > 0))) else (if (Int.tmod x2 x3) = 0 then (some (decide ((Int.tmod x0 x1) > 0))) else (dist_more.l0 k x3 (Int.tmod x2 x3) x1 (Int.tmod x0 x1)))) else (some (decide ((wrap64 (Int.tdiv x0 x1)) > (wrap64 (Int.tdiv x2 x3)))))))) (fun k => by first | rfl | rw [dist_more.l0]) ?_
 repeat' first
  | (with_reducible exact dist_more.L0_is _ _ _ _)
  | (with_reducible exact LimIs.const _)
  | (with_reducible refine LimIs.ite ?_ ?_)
  | (with_reducible refine LimIs.bind ?_ (fun _ => ?_))
  | exact dist_more.L0_is _ _ _ _
  | exact LimIs.const _
  | refine LimIs.ite ?_ ?_
  | refine LimIs.bind ?_ (fun _ => ?_)
set_option maxRecDepth 100000 in
theorem dist_wrongs.F_eq (l0 : List (List (S64))) : dist_wrongs.F l0 = dist_wrongs.L0 l0 (l0.length : Int) 0 := by
 refine LimIs.out (?_ : LimIs (fun k => dist_wrongs.l0 k l0 (l0.length : Int) 0) _)
 repeat' first
  | (with_reducible exact dist_wrongs.L0_is _ _ _)
  | (with_reducible exact LimIs.const _)
  | (with_reducible refine LimIs.ite ?_ ?_)
  | (with_reducible refine LimIs.bind ?_ (fun _ => ?_))
  | exact dist_wrongs.L0_is _ _ _
  | exact LimIs.const _
  | refine LimIs.ite ?_ ?_
  | refine LimIs.bind ?_ (fun _ => ?_)
set_option maxRecDepth 100000 in
theorem dist_more.F_eq (a0 : Int) (a1 : Int) (a2 : Int) (a3 : Int) : dist_more.F a0 a1 a2 a3 = dist_more.L0 a0 a1 a2 a3 := by
 refine LimIs.out (?_ : LimIs (fun k => dist_more.l0 k a0 a1 a2 a3) _)
 repeat' first
  | (with_reducible exact dist_more.L0_is _ _ _ _)
  | (with_reducible exact LimIs.const _)
  | (with_reducible refine LimIs.ite ?_ ?_)
  | (with_reducible refine LimIs.bind ?_ (fun _ => ?_))
  | exact dist_more.L0_is _ _ _ _
  | exact LimIs.const _
  | refine LimIs.ite ?_ ?_
  | refine LimIs.bind ?_ (fun _ => ?_)
end Go.Proofs.Ytjbgnlhgjgnclaa.PB
end
section
namespace Go.Proofs.Ytjbgnlhgjgnclaa.PB
open Go.RowKit Go.Proofs.YtjbgnlhgjgnclaaW.PrintWords Go.Proofs.YtjbgnlhgjgnclaaW.PrintLast Go.Proofs.YtjbgnlhgjgnclaaW.PrintMore
open Go.Proofs.YtjbgnlhgjgnclaaW.EvKit
set_option linter.unusedVariables false
noncomputable def hushref2_Weight.L0 (x1 : List Int) (x5 : Int) (x8 : List (S64)) (x9 : Int) (x10 : Int) : Option (Int) := lim (fun k => hushref2_Weight.l0 k x1 x5 x8 x9 x10)
theorem hushref2_Weight.L0_is (x1 : List Int) (x5 : Int) (x8 : List (S64)) (x9 : Int) (x10 : Int) : LimIs (fun k => hushref2_Weight.l0 k x1 x5 x8 x9 x10) (hushref2_Weight.L0 x1 x5 x8 x9 x10) := ⟨fun k => (hushref2_Weight.mono_l k) x1 x5 x8 x9 x10, rfl⟩
noncomputable def hushref2_Total.L0 (x3 : Int) (x6 : List (S64)) (x7 : Int) (x8 : Int) : Option (Int) := lim (fun k => hushref2_Total.l0 k x3 x6 x7 x8)
theorem hushref2_Total.L0_is (x3 : Int) (x6 : List (S64)) (x7 : Int) (x8 : Int) : LimIs (fun k => hushref2_Total.l0 k x3 x6 x7 x8) (hushref2_Total.L0 x3 x6 x7 x8) := ⟨fun k => (hushref2_Total.mono_l k) x3 x6 x7 x8, rfl⟩
noncomputable def hushref2_Weight.F (l0 : List (S64)) (l1 : List Int) : Option (Int) := lim (fun k => hushref2_Weight.f k l0 l1)
theorem hushref2_Weight.F_is (l0 : List (S64)) (l1 : List Int) : LimIs (fun k => hushref2_Weight.f k l0 l1) (hushref2_Weight.F l0 l1) := ⟨fun k => hushref2_Weight.mono l0 l1 k, rfl⟩
noncomputable def hushref2_Total.F (l0 : List (S64)) : Option (Int) := lim (fun k => hushref2_Total.f k l0)
theorem hushref2_Total.F_is (l0 : List (S64)) : LimIs (fun k => hushref2_Total.f k l0) (hushref2_Total.F l0) := ⟨fun k => hushref2_Total.mono l0 k, rfl⟩
set_option maxRecDepth 100000 in
theorem hushref2_Weight.L0_eq (x1 : List Int) (x5 : Int) (x8 : List (S64)) (x9 : Int) (x10 : Int) : hushref2_Weight.L0 x1 x5 x8 x9 x10 = if x10 < x9 then (if 0 ≤ x10 then (if x10 < (x8.length : Int) then ((hushref2_Compare.F ((rd_T64 x8 x10).f0) x1).bind fun t196 => (if t196 = 0 then (hushref2_Weight.L0 x1 (wrap64 (x5 + ((rd_T64 x8 x10).f1))) x8 x9 (wrap64 (x10 + 1))) else (hushref2_Weight.L0 x1 x5 x8 x9 (wrap64 (x10 + 1))))) else (none)) else (none)) else (some x5) := by
 refine LimIs.step' (hushref2_Weight.L0_is x1 x5 x8 x9 x10).1 (b := fun k => if x10 < x9 then (if 0 ≤ x10 then (if x10 < (x8.length : Int) then ((hushref2_Compare.f k ((rd_T64 x8 x10).f0) x1).bind fun t196 => (if t196 = 0 then (hushref2_Weight.l0 k x1 (wrap64 (x5 + ((rd_T64 x8 x10).f1))) x8 x9 (wrap64 (x10 + 1))) else (hushref2_Weight.l0 k x1 x5 x8 x9 (wrap64 (x10 + 1))))) else (none)) else (none)) else (some x5)) (fun k => by first | rfl | rw [hushref2_Weight.l0]) ?_
 repeat' first
  | (with_reducible exact hushref2_Compare.F_is _ _)
  | (with_reducible exact hushref2_Weight.L0_is _ _ _ _ _)
  | (with_reducible exact LimIs.const _)
  | (with_reducible refine LimIs.ite ?_ ?_)
  | (with_reducible refine LimIs.bind ?_ (fun _ => ?_))
  | exact hushref2_Compare.F_is _ _
  | exact hushref2_Weight.L0_is _ _ _ _ _
  | exact LimIs.const _
  | refine LimIs.ite ?_ ?_
  | refine LimIs.bind ?_ (fun _ => ?_)
set_option maxRecDepth 100000 in
theorem hushref2_Total.L0_eq (x3 : Int) (x6 : List (S64)) (x7 : Int) (x8 : Int) : hushref2_Total.L0 x3 x6 x7 x8 = if x8 < x7 then (if 0 ≤ x8 then (if x8 < (x6.length : Int) then (hushref2_Total.L0 (wrap64 (x3 + ((rd_T64 x6 x8).f1))) x6 x7 (wrap64 (x8 + 1))) else (none)) else (none)) else (some x3) := by
 refine LimIs.step' (hushref2_Total.L0_is x3 x6 x7 x8).1 (b := fun k => if x8 < x7 then (if 0 ≤ x8 then (if x8 < (x6.length : Int) then (hushref2_Total.l0 k (wrap64 (x3 + ((rd_T64 x6 x8).f1))) x6 x7 (wrap64 (x8 + 1))) else (none)) else (none)) else (some x3)) (fun k => by first | rfl | rw [hushref2_Total.l0]) ?_
 repeat' first
  | (with_reducible exact hushref2_Total.L0_is _ _ _ _)
  | (with_reducible exact LimIs.const _)
  | (with_reducible refine LimIs.ite ?_ ?_)
  | (with_reducible refine LimIs.bind ?_ (fun _ => ?_))
  | exact hushref2_Total.L0_is _ _ _ _
  | exact LimIs.const _
  | refine LimIs.ite ?_ ?_
  | refine LimIs.bind ?_ (fun _ => ?_)
set_option maxRecDepth 100000 in
theorem hushref2_Weight.F_eq (l0 : List (S64)) (l1 : List Int) : hushref2_Weight.F l0 l1 = hushref2_Weight.L0 l1 0 l0 (l0.length : Int) 0 := by
 refine LimIs.out (?_ : LimIs (fun k => hushref2_Weight.l0 k l1 0 l0 (l0.length : Int) 0) _)
 repeat' first
  | (with_reducible exact hushref2_Weight.L0_is _ _ _ _ _)
  | (with_reducible exact LimIs.const _)
  | (with_reducible refine LimIs.ite ?_ ?_)
  | (with_reducible refine LimIs.bind ?_ (fun _ => ?_))
  | exact hushref2_Weight.L0_is _ _ _ _ _
  | exact LimIs.const _
  | refine LimIs.ite ?_ ?_
  | refine LimIs.bind ?_ (fun _ => ?_)
set_option maxRecDepth 100000 in
theorem hushref2_Total.F_eq (l0 : List (S64)) : hushref2_Total.F l0 = hushref2_Total.L0 0 l0 (l0.length : Int) 0 := by
 refine LimIs.out (?_ : LimIs (fun k => hushref2_Total.l0 k 0 l0 (l0.length : Int) 0) _)
 repeat' first
  | (with_reducible exact hushref2_Total.L0_is _ _ _ _)
  | (with_reducible exact LimIs.const _)
  | (with_reducible refine LimIs.ite ?_ ?_)
  | (with_reducible refine LimIs.bind ?_ (fun _ => ?_))
  | exact hushref2_Total.L0_is _ _ _ _
  | exact LimIs.const _
  | refine LimIs.ite ?_ ?_
  | refine LimIs.bind ?_ (fun _ => ?_)
end Go.Proofs.Ytjbgnlhgjgnclaa.PB
end
section
namespace Go.Proofs.Ytjbgnlhgjgnclaa.PB
open Go.RowKit Go.Proofs.YtjbgnlhgjgnclaaW.PrintWords Go.Proofs.YtjbgnlhgjgnclaaW.PrintLast Go.Proofs.YtjbgnlhgjgnclaaW.PrintMore
open Go.Proofs.YtjbgnlhgjgnclaaW.EvKit
set_option linter.unusedVariables false
noncomputable def hushref2_least.L0 (x1 : List Int) (x2 : Bool) (x8 : List Int) (x9 : Bool) (x12 : List (S64)) (x13 : Int) (x14 : Int) : Option (List Int × Bool) := lim (fun k => hushref2_least.l0 k x1 x2 x8 x9 x12 x13 x14)
theorem hushref2_least.L0_is (x1 : List Int) (x2 : Bool) (x8 : List Int) (x9 : Bool) (x12 : List (S64)) (x13 : Int) (x14 : Int) : LimIs (fun k => hushref2_least.l0 k x1 x2 x8 x9 x12 x13 x14) (hushref2_least.L0 x1 x2 x8 x9 x12 x13 x14) := ⟨fun k => (hushref2_least.mono_l k) x1 x2 x8 x9 x12 x13 x14, rfl⟩
noncomputable def hushref2_least.F (l0 : List (S64)) (l1 : List Int) (a2 : Bool) : Option (List Int × Bool) := lim (fun k => hushref2_least.f k l0 l1 a2)
theorem hushref2_least.F_is (l0 : List (S64)) (l1 : List Int) (a2 : Bool) : LimIs (fun k => hushref2_least.f k l0 l1 a2) (hushref2_least.F l0 l1 a2) := ⟨fun k => hushref2_least.mono l0 l1 a2 k, rfl⟩
set_option maxRecDepth 100000 in
theorem hushref2_least.L0_eq (x1 : List Int) (x2 : Bool) (x8 : List Int) (x9 : Bool) (x12 : List (S64)) (x13 : Int) (x14 : Int) : hushref2_least.L0 x1 x2 x8 x9 x12 x13 x14 = if x14 < x13 then (if 0 ≤ x14 then (if x14 < (x12.length : Int) then (if ((rd_T64 x12 x14).f1) > 0 then (if x2 = true then ((hushref2_Compare.F ((rd_T64 x12 x14).f0) x1).bind fun t191 => (if t191 > 0 then (if x9 = true then ((hushref2_Compare.F ((rd_T64 x12 x14).f0) x8).bind fun t192 => (if t192 < 0 then (hushref2_least.L0 x1 x2 ((rd_T64 x12 x14).f0) true x12 x13 (wrap64 (x14 + 1))) else (hushref2_least.L0 x1 x2 x8 x9 x12 x13 (wrap64 (x14 + 1))))) else (hushref2_least.L0 x1 x2 ((rd_T64 x12 x14).f0) true x12 x13 (wrap64 (x14 + 1)))) else (hushref2_least.L0 x1 x2 x8 x9 x12 x13 (wrap64 (x14 + 1))))) else (if x9 = true then ((hushref2_Compare.F ((rd_T64 x12 x14).f0) x8).bind fun t193 => (if t193 < 0 then (hushref2_least.L0 x1 x2 ((rd_T64 x12 x14).f0) true x12 x13 (wrap64 (x14 + 1))) else (hushref2_least.L0 x1 x2 x8 x9 x12 x13 (wrap64 (x14 + 1))))) else (hushref2_least.L0 x1 x2 ((rd_T64 x12 x14).f0) true x12 x13 (wrap64 (x14 + 1))))) else (hushref2_least.L0 x1 x2 x8 x9 x12 x13 (wrap64 (x14 + 1)))) else (none)) else (none)) else (some (x8, x9)) := by
 refine LimIs.step' (hushref2_least.L0_is x1 x2 x8 x9 x12 x13 x14).1 (b := fun k => if x14 < x13 then (if 0 ≤ x14 then (if x14 < (x12.length : Int) then (if ((rd_T64 x12 x14).f1) > 0 then (if x2 = true then ((hushref2_Compare.f k ((rd_T64 x12 x14).f0) x1).bind fun t191 => (if t191 > 0 then (if x9 = true then ((hushref2_Compare.f k ((rd_T64 x12 x14).f0) x8).bind fun t192 => (if t192 < 0 then (hushref2_least.l0 k x1 x2 ((rd_T64 x12 x14).f0) true x12 x13 (wrap64 (x14 + 1))) else (hushref2_least.l0 k x1 x2 x8 x9 x12 x13 (wrap64 (x14 + 1))))) else (hushref2_least.l0 k x1 x2 ((rd_T64 x12 x14).f0) true x12 x13 (wrap64 (x14 + 1)))) else (hushref2_least.l0 k x1 x2 x8 x9 x12 x13 (wrap64 (x14 + 1))))) else (if x9 = true then ((hushref2_Compare.f k ((rd_T64 x12 x14).f0) x8).bind fun t193 => (if t193 < 0 then (hushref2_least.l0 k x1 x2 ((rd_T64 x12 x14).f0) true x12 x13 (wrap64 (x14 + 1))) else (hushref2_least.l0 k x1 x2 x8 x9 x12 x13 (wrap64 (x14 + 1))))) else (hushref2_least.l0 k x1 x2 ((rd_T64 x12 x14).f0) true x12 x13 (wrap64 (x14 + 1))))) else (hushref2_least.l0 k x1 x2 x8 x9 x12 x13 (wrap64 (x14 + 1)))) else (none)) else (none)) else (some (x8, x9))) (fun k => by first | rfl | rw [hushref2_least.l0]) ?_
 repeat' first
  | (with_reducible exact hushref2_Compare.F_is _ _)
  | (with_reducible exact hushref2_least.L0_is _ _ _ _ _ _ _)
  | (with_reducible exact LimIs.const _)
  | (with_reducible refine LimIs.ite ?_ ?_)
  | (with_reducible refine LimIs.bind ?_ (fun _ => ?_))
  | exact hushref2_Compare.F_is _ _
  | exact hushref2_least.L0_is _ _ _ _ _ _ _
  | exact LimIs.const _
  | refine LimIs.ite ?_ ?_
  | refine LimIs.bind ?_ (fun _ => ?_)
set_option maxRecDepth 100000 in
theorem hushref2_least.F_eq (l0 : List (S64)) (l1 : List Int) (a2 : Bool) : hushref2_least.F l0 l1 a2 = hushref2_least.L0 l1 a2 ([] : List Int) false l0 (l0.length : Int) 0 := by
 refine LimIs.out (?_ : LimIs (fun k => hushref2_least.l0 k l1 a2 ([] : List Int) false l0 (l0.length : Int) 0) _)
 repeat' first
  | (with_reducible exact hushref2_least.L0_is _ _ _ _ _ _ _)
  | (with_reducible exact LimIs.const _)
  | (with_reducible refine LimIs.ite ?_ ?_)
  | (with_reducible refine LimIs.bind ?_ (fun _ => ?_))
  | exact hushref2_least.L0_is _ _ _ _ _ _ _
  | exact LimIs.const _
  | refine LimIs.ite ?_ ?_
  | refine LimIs.bind ?_ (fun _ => ?_)
end Go.Proofs.Ytjbgnlhgjgnclaa.PB
end
section
namespace Go.Proofs.Ytjbgnlhgjgnclaa.PB
open Go.RowKit Go.Proofs.YtjbgnlhgjgnclaaW.PrintWords Go.Proofs.YtjbgnlhgjgnclaaW.PrintLast Go.Proofs.YtjbgnlhgjgnclaaW.PrintMore
open Go.Proofs.YtjbgnlhgjgnclaaW.EvKit
set_option linter.unusedVariables false
noncomputable def hushref2_Small.L0 (x8 : List Int) (x9 : Int) (x10 : Int) : Option (Bool) := lim (fun k => hushref2_Small.l0 k x8 x9 x10)
theorem hushref2_Small.L0_is (x8 : List Int) (x9 : Int) (x10 : Int) : LimIs (fun k => hushref2_Small.l0 k x8 x9 x10) (hushref2_Small.L0 x8 x9 x10) := ⟨fun k => (hushref2_Small.mono_l k) x8 x9 x10, rfl⟩
noncomputable def hushref2_Small.F (l0 : List Int) : Option (Bool) := lim (fun k => hushref2_Small.f k l0)
theorem hushref2_Small.F_is (l0 : List Int) : LimIs (fun k => hushref2_Small.f k l0) (hushref2_Small.F l0) := ⟨fun k => hushref2_Small.mono l0 k, rfl⟩
set_option maxRecDepth 100000 in
theorem hushref2_Small.L0_eq (x8 : List Int) (x9 : Int) (x10 : Int) : hushref2_Small.L0 x8 x9 x10 = if x10 < x9 then (if 0 ≤ x10 then (if x10 < (x8.length : Int) then (if (rd x8 x10) > 1073741824 then (some false) else (if (rd x8 x10) < (-1073741824) then (some false) else (hushref2_Small.L0 x8 x9 (wrap64 (x10 + 1))))) else (none)) else (none)) else (some true) := by
 refine LimIs.step' (hushref2_Small.L0_is x8 x9 x10).1 (b := fun k => if x10 < x9 then (if 0 ≤ x10 then (if x10 < (x8.length : Int) then (if (rd x8 x10) > 1073741824 then (some false) else (if (rd x8 x10) < (-1073741824) then (some false) else (hushref2_Small.l0 k x8 x9 (wrap64 (x10 + 1))))) else (none)) else (none)) else (some true)) (fun k => by first | rfl | rw [hushref2_Small.l0]) ?_
 repeat' first
  | (with_reducible exact hushref2_Small.L0_is _ _ _)
  | (with_reducible exact LimIs.const _)
  | (with_reducible refine LimIs.ite ?_ ?_)
  | (with_reducible refine LimIs.bind ?_ (fun _ => ?_))
  | exact hushref2_Small.L0_is _ _ _
  | exact LimIs.const _
  | refine LimIs.ite ?_ ?_
  | refine LimIs.bind ?_ (fun _ => ?_)
set_option maxRecDepth 100000 in
theorem hushref2_Small.F_eq (l0 : List Int) : hushref2_Small.F l0 = if (l0.length : Int) > 16 then (some false) else (hushref2_Small.L0 l0 (l0.length : Int) 0) := by
 refine LimIs.out (?_ : LimIs (fun k => if (l0.length : Int) > 16 then (some false) else (hushref2_Small.l0 k l0 (l0.length : Int) 0)) _)
 repeat' first
  | (with_reducible exact hushref2_Small.L0_is _ _ _)
  | (with_reducible exact LimIs.const _)
  | (with_reducible refine LimIs.ite ?_ ?_)
  | (with_reducible refine LimIs.bind ?_ (fun _ => ?_))
  | exact hushref2_Small.L0_is _ _ _
  | exact LimIs.const _
  | refine LimIs.ite ?_ ?_
  | refine LimIs.bind ?_ (fun _ => ?_)
end Go.Proofs.Ytjbgnlhgjgnclaa.PB
end
section
namespace Go.Proofs.Ytjbgnlhgjgnclaa.DistPure
set_option linter.unusedVariables false
set_option linter.unusedSimpArgs false
open Go.RowKit Go.Proofs.Ytjbgnlhgjgnclaa.PB Go.Proofs.YtjbgnlhgjgnclaaW.PrintWords Go.Proofs.YtjbgnlhgjgnclaaW.PrintLast Go.Proofs.YtjbgnlhgjgnclaaW.PrintMore Go.Proofs.YtjbgnlhgjgnclaaW.EvKit
theorem rdAt {xs : List Int} {i : Nat} (h : i < xs.length) : rd xs (i : Int) = xs[i] := by
 rw [rd_nat, List.getD_eq_getElem?_getD, List.getElem?_eq_getElem h]; rfl
theorem rd32At {xs : List S64} {i : Nat} (h : i < xs.length) : rd_T64 xs (i : Int) = xs[i] := by
 unfold rd_T64
 rw [Int.toNat_natCast, List.getD_eq_getElem?_getD, List.getElem?_eq_getElem h]; rfl
theorem w1 {i : Nat} (h : i < 4611686018427387904) : wrap64 ((i : Int) + 1) = ((i + 1 : Nat) : Int) := by rw [wrap64_of (by omega) (by omega)]; rfl
theorem eqF (x y : List Int) (hx : x.length ≤ 1048576) : slices_Equal_int_int.F x y = some (decide (x = y)) :=
 ((slices_Equal_int_int.F_is x y).iff _).2 (eq_is x y (by omega))
theorem rcmp_loop (x y : List Int) (hx : x.length ≤ 1048576) (hy : y.length ≤ 1048576) : ∀ (n i : Nat), i + n = x.length → i ≤ y.length →
  hushref2_Compare.L0 x y (x.length : Int) (i : Int) = some (cmpL (x.drop i) (y.drop i)) := by
 intro n
 induction n with
 | zero =>
  intro i hi h
  rw [hushref2_Compare.L0_eq, if_neg (by omega), List.drop_of_length_le (show x.length ≤ i by omega)]
  rcases Nat.lt_or_ge i y.length with h2 | h2
  ·
   rw [if_pos (by omega), List.drop_eq_getElem_cons h2]
   rfl
  ·
   rw [if_neg (by omega), List.drop_of_length_le h2]
   rfl
 | succ n ih =>
  intro i hi h
  have hxi : i < x.length := by omega
  rw [hushref2_Compare.L0_eq, if_pos (by omega), List.drop_eq_getElem_cons hxi]
  rcases Nat.lt_or_ge i y.length with h2 | h2
  ·
   rw [if_neg (by omega), if_pos (by omega), if_pos (by omega), if_pos (by omega), List.drop_eq_getElem_cons h2, rdAt hxi, rdAt h2, cmpL]
   by_cases c : x[i] = y[i]
   ·
    rw [if_pos c, if_neg (by omega), if_neg (by omega), w1 (by omega)]
    exact ih (i + 1) (by omega) (by omega)
   ·
    rw [if_neg c]
    by_cases c1 : x[i] < y[i]
    ·
     rw [if_pos c1, if_pos c1]
    ·
     rw [if_neg c1, if_neg c1, if_pos (by omega)]
  ·
   rw [if_pos (by omega), List.drop_of_length_le h2]
   rfl
theorem rcmpF (x y : List Int) (hx : x.length ≤ 1048576) (hy : y.length ≤ 1048576) : hushref2_Compare.F x y = some (cmpL x y) := by
 rw [hushref2_Compare.F_eq]
 exact rcmp_loop x y hx hy x.length 0 (by omega) (by omega)
theorem cmpL0 {a b : List Int} : cmpL a b = 0 ↔ a = b := ⟨cmpL_eq a b, fun h => by rw [h, cmpL_self]⟩
def okN (n : Int) : Bool := decide (-1073741824 ≤ n) && decide (n ≤ 1073741824)
def smallB (o : List Int) : Bool := decide (o.length ≤ 16) && o.all okN
theorem small1 (n : Int) : dist_small_1.f n = some (!okN n) := by
 unfold dist_small_1.f okN
 by_cases h : n < -1073741824
 ·
  rw [if_pos h]; congr 1; symm; simp; omega
 ·
  rw [if_neg h]; congr 1; rw [Bool.eq_iff_iff]; simp; omega
theorem index_loop (x : List Int) (hx : x.length ≤ 1048576) : ∀ (n i : Nat), i + n = x.length →
  ∃ r, slices_IndexFunc_int_int.L0 x (x.length : Int) (i : Int) = some r ∧ decide (r ≥ 0) = !((x.drop i).all okN) := by
 intro n
 induction n with
 | zero =>
  intro i hi
  refine ⟨-1, ?_, ?_⟩
  ·
   rw [slices_IndexFunc_int_int.L0_eq, if_neg (by omega)]
  ·
   rw [List.drop_of_length_le (show x.length ≤ i by omega)]; rfl
 | succ n ih =>
  intro i hi
  have hxi : i < x.length := by omega
  rw [slices_IndexFunc_int_int.L0_eq, if_pos (by omega), if_pos (by omega), if_pos (by omega), rdAt hxi, small1, Option.bind_some, List.drop_eq_getElem_cons hxi, List.all_cons]
  cases h : okN x[i] with
  | false => exact ⟨i, if_pos rfl, by simp⟩
  | true =>
   obtain ⟨r, h1, h2⟩ := ih (i + 1) (by omega)
   refine ⟨r, ?_, by rw [h2]; rfl⟩
   rw [if_neg (by decide), w1 (by omega)]
   exact h1
theorem smallF (o : List Int) (h : o.length ≤ 1048576) : dist_small.F o = some (smallB o) := by
 rw [dist_small.F_eq]
 unfold smallB
 by_cases c : o.length ≤ 16
 ·
  obtain ⟨r, h1, h2⟩ := index_loop o h o.length 0 (by omega)
  rw [if_pos (by omega), slices_ContainsFunc_int_int.F_eq, slices_IndexFunc_int_int.F_eq]
  rw [show (0 : Int) = ((0 : Nat) : Int) from rfl, h1]
  rw [Option.bind_some, Option.bind_some]
  have h2 : decide (r ≥ ((0 : Nat) : Int)) = !((o.drop 0).all okN) := h2
  rw [h2, List.drop_zero, decide_eq_true c]
  simp
 ·
  rw [if_neg (by omega), decide_eq_false c]; rfl
theorem totOf_cons (p : S64) (l : List S64) : totOf (p :: l) = p.f1 + totOf l := rfl
theorem totOf_nil : totOf [] = 0 := rfl
theorem wOf_le : ∀ {l : List S64}, (∀ p ∈ l, 0 ≤ p.f1) → ∀ o, 0 ≤ wOf l o ∧ wOf l o ≤ totOf l
 | [], _, _ => ⟨Int.le_refl _, Int.le_refl _⟩
 | p :: l, h, o => by
  have := wOf_le (l := l) (fun q hq => h q (by simp [hq])) o
  have := h p (by simp)
  rw [totOf_cons, wOf_cons]
  split <;> omega
theorem tot_bd : ∀ {l : List S64}, (∀ p ∈ l, 0 ≤ p.f1 ∧ p.f1 ≤ 1073741824) → totOf l ≤ 1073741824 * (l.length : Int)
 | [], _ => Int.le_refl _
 | p :: l, h => by
  have := tot_bd (l := l) (fun q hq => h q (by simp [hq]))
  have := h p (by simp)
  rw [totOf_cons, List.length_cons]; omega
theorem totF (l : List S64) (hl : l.length ≤ 1048576) (h0 : ∀ p ∈ l, 0 ≤ p.f1) (ht : totOf l ≤ 4611686018427387904) : dist_total.F l = some (totOf l) :=
 ((dist_total.F_is l).iff _).2 (total_is l (by omega) h0 ht)
theorem mem_at {l : List S64} {i : Nat} (h : i < l.length) : l[i] ∈ l := List.getElem_mem h
end Go.Proofs.Ytjbgnlhgjgnclaa.DistPure
end
section
namespace Go.Proofs.Ytjbgnlhgjgnclaa.DistPure
set_option linter.unusedVariables false
set_option linter.unusedSimpArgs false
open Go.RowKit Go.Proofs.Ytjbgnlhgjgnclaa.PB Go.Proofs.YtjbgnlhgjgnclaaW.PrintWords Go.Proofs.YtjbgnlhgjgnclaaW.PrintLast Go.Proofs.YtjbgnlhgjgnclaaW.PrintMore Go.Proofs.YtjbgnlhgjgnclaaW.EvKit
theorem tm2 (x : Nat) : Int.tmod (x : Int) 2 = ((x % 2 : Nat) : Int) := by rw [Int.tmod_eq_emod_of_nonneg (by omega)]; rfl
theorem td2 (x : Nat) (h : x ≤ 9223372036854775807) : wrap64 (Int.tdiv (x : Int) 2) = ((x / 2 : Nat) : Int) := by
 rw [Int.tdiv_eq_ediv_of_nonneg (by omega), wrap64_of (by omega) (by omega)]; rfl
theorem div_l2 : ∀ (t a : Nat), t ≤ 4611686018427387904 → a * 2 ^ t ≤ 9223372036854775807 → Ev (fun k => hushref1_Divisor.l2 k (a : Int) (t : Int)) ((a * 2 ^ t : Nat) : Int) := by
 intro t
 induction t with
 | zero =>
  intro a _ _
  refine Ev.step (fun k => hushref1_Divisor.l2.eq_2 _ _ k) (Ev.neg (by omega) ?_)
  simpa using Ev.ret _
 | succ t ih =>
  intro a ht h
  have h1 : a ≤ a * 2 ^ t := Nat.le_mul_of_pos_right _ (Nat.two_pow_pos t)
  rw [Nat.pow_succ] at h
  have h2 : a * (2 ^ t * 2) = 2 * a * 2 ^ t := by rw [Nat.mul_comm (2 ^ t) 2, ← Nat.mul_assoc, Nat.mul_comm a 2]
  rw [h2] at h
  have h3 : 2 * a ≤ 2 * a * 2 ^ t := Nat.le_mul_of_pos_right _ (Nat.two_pow_pos t)
  have h4 := ih (2 * a) (by omega) h
  refine Ev.step (fun k => hushref1_Divisor.l2.eq_2 _ _ k) (Ev.pos (by omega) ?_)
  have e1 : wrap64 (2 * (a : Int)) = ((2 * a : Nat) : Int) := by rw [wrap64_of (by omega) (by omega)]; omega
  have e2 : wrap64 (((t + 1 : Nat) : Int) - 1) = ((t : Nat) : Int) := by rw [wrap64_of (by omega) (by omega)]; omega
  simp only [e1, e2]
  rw [Nat.pow_succ, h2]
  exact h4
theorem gcd_half {x y : Nat} (hx : x % 2 = 0) (hy : y % 2 = 1) : Nat.gcd (x / 2) y = Nat.gcd x y := by
 have h : x = 2 * (x / 2) := by omega
 have hc : Nat.Coprime 2 y := by
  unfold Nat.Coprime
  rw [Nat.gcd_rec, hy]
  decide
 rw [h]
 simp only [Nat.mul_div_cancel_left _ (show 0 < 2 by decide)]
 exact (Nat.Coprime.gcd_mul_left_cancel (x / 2) hc).symm
theorem div_l1 : ∀ (n x y t : Nat) {r : Int}, x + y ≤ n → 0 < x → 0 < y → (x % 2 = 1 ∨ y % 2 = 1) → x ≤ 9223372036854775807 → y ≤ 9223372036854775807 →
  Ev (fun k => hushref1_Divisor.l2 k ((Nat.gcd x y : Nat) : Int) (t : Int)) r → Ev (fun k => hushref1_Divisor.l1 k (x : Int) (y : Int) (t : Int)) r := by
 intro n
 induction n with
 | zero => intro x y t r h hx; omega
 | succ n ih =>
  intro x y t r h hx hy ho bx bY hr
  by_cases he : x = y
  ·
   subst he
   rw [Nat.gcd_self] at hr
   exact Ev.step (fun k => hushref1_Divisor.l1.eq_2 _ _ _ k) (Ev.pos rfl hr)
  ·
   refine Ev.step (fun k => hushref1_Divisor.l1.eq_2 _ _ _ k) (Ev.neg (by omega) ?_)
   rw [tm2, tm2, td2 x bx, td2 y bY]
   by_cases h0 : x % 2 = 0
   ·
    refine Ev.pos (by omega) (ih (x / 2) y t (by omega) (by omega) hy (by omega) (by omega) bY ?_)
    rw [gcd_half h0 (by omega)]
    exact hr
   ·
    refine Ev.neg (by omega) ?_
    by_cases h1 : y % 2 = 0
    ·
     refine Ev.pos (by omega) (ih x (y / 2) t (by omega) hx (by omega) (by omega) bx (by omega) ?_)
     rw [Nat.gcd_comm, gcd_half h1 (by omega), Nat.gcd_comm]
     exact hr
    ·
     refine Ev.neg (by omega) ?_
     by_cases h2 : x > y
     ·
      refine Ev.pos (by omega) ?_
      have e : wrap64 ((x : Int) - (y : Int)) = ((x - y : Nat) : Int) := by rw [wrap64_of (by omega) (by omega)]; omega
      rw [e]
      refine ih (x - y) y t (by omega) (by omega) hy (by omega) (by omega) bY ?_
      rw [Nat.gcd_sub_self_left (by omega)]
      exact hr
     ·
      refine Ev.neg (by omega) ?_
      have e : wrap64 ((y : Int) - (x : Int)) = ((y - x : Nat) : Int) := by rw [wrap64_of (by omega) (by omega)]; omega
      rw [e]
      refine ih x (y - x) t (by omega) hx (by omega) (by omega) bx (by omega) ?_
      rw [Nat.gcd_sub_self_right (by omega)]
      exact hr
theorem div_l0 : ∀ (n x y t : Nat) {r : Int}, x ≤ n → 0 < x → 0 < y → x ≤ 9223372036854775807 → y ≤ 9223372036854775807 → t + n ≤ 9223372036854775807 →
  Ev (fun k => hushref1_Divisor.l2 k ((Nat.gcd x y : Nat) : Int) (t : Int)) r → Ev (fun k => hushref1_Divisor.l0 k (x : Int) (y : Int) (t : Int)) r := by
 intro n
 induction n with
 | zero => intro x y t r h hx; omega
 | succ n ih =>
  intro x y t r h hx hy bx bY ht hr
  have hj : (x % 2 = 1 ∨ y % 2 = 1) → Ev (fun k => hushref1_Divisor.j1 k (x : Int) (y : Int) (t : Int)) r := fun ho =>
   Ev.step (fun k => hushref1_Divisor.j1.eq_2 _ _ _ k) (div_l1 (x + y) x y t (Nat.le_refl _) hx hy ho bx bY hr)
  refine Ev.step (fun k => hushref1_Divisor.l0.eq_2 _ _ _ k) ?_
  rw [tm2, tm2, td2 x bx, td2 y bY]
  by_cases h0 : x % 2 = 0
  ·
   by_cases h1 : y % 2 = 0
   ·
    have e : wrap64 ((t : Int) + 1) = ((t + 1 : Nat) : Int) := by rw [wrap64_of (by omega) (by omega)]; omega
    refine Ev.pos (by omega) (Ev.pos (by omega) ?_)
    rw [e]
    refine ih (x / 2) (y / 2) (t + 1) (by omega) (by omega) (by omega) (by omega) (by omega) (by omega) ?_
    have hg : Nat.gcd x y = 2 * Nat.gcd (x / 2) (y / 2) := by
     rw [← Nat.gcd_mul_left]
     congr 1 <;> omega
    have hle : Nat.gcd x y ≤ x := Nat.gcd_le_left y hx
    refine Ev.step (fun k => hushref1_Divisor.l2.eq_2 _ _ k) (Ev.pos (by omega) ?_)
    have e1 : wrap64 (2 * ((Nat.gcd (x / 2) (y / 2) : Nat) : Int)) = ((Nat.gcd x y : Nat) : Int) := by rw [wrap64_of (by omega) (by omega)]; omega
    have e2 : wrap64 (((t + 1 : Nat) : Int) - 1) = ((t : Nat) : Int) := by rw [wrap64_of (by omega) (by omega)]; omega
    simp only [e1, e2]
    exact hr
   ·
    exact Ev.pos (by omega) (Ev.neg (by omega) (hj (by omega)))
  ·
   exact Ev.neg (by omega) (hj (by omega))
theorem div_ev {u d : Int} (hu : 0 ≤ u) (hd : 1 ≤ d) (bu : u ≤ 9223372036854775807) (bd : d ≤ 9223372036854775807) : Ev (fun k => hushref1_Divisor.f k u d) ((Int.gcd u d : Nat) : Int) := by
 obtain ⟨x, rfl⟩ := Int.eq_ofNat_of_zero_le hu
 obtain ⟨y, rfl⟩ := Int.eq_ofNat_of_zero_le (show 0 ≤ d by omega)
 by_cases h0 : x = 0
 ·
  subst h0
  refine Ev.pos rfl (Ev.eq (Ev.ret _) ?_)
  simp
 ·
  refine Ev.neg (by omega) ?_
  show Ev (fun k => hushref1_Divisor.l0 k (x : Int) (y : Int) 0) ((Nat.gcd x y : Nat) : Int)
  refine div_l0 x x y 0 (Nat.le_refl _) (by omega) (by omega) (by omega) (by omega) (by omega) ?_
  refine Ev.eq (div_l2 0 (Nat.gcd x y) (by omega) ?_) (by simp)
  have := Nat.gcd_le_left y (show 0 < x by omega)
  simp
  omega
end Go.Proofs.Ytjbgnlhgjgnclaa.DistPure
end
section
namespace Go.Proofs.Ytjbgnlhgjgnclaa.PB
open Go.RowKit Go.Proofs.YtjbgnlhgjgnclaaW.PrintWords Go.Proofs.YtjbgnlhgjgnclaaW.PrintLast Go.Proofs.YtjbgnlhgjgnclaaW.PrintMore
open Go.Proofs.YtjbgnlhgjgnclaaW.EvKit
set_option linter.unusedVariables false
noncomputable def hushref2_Tidy.L0 (x0 : List (S64)) (x4 : List (S64)) (x5 : List Int) (x6 : Bool) : Option ((List (S64)) × Int) := lim (fun k => hushref2_Tidy.l0 k x0 x4 x5 x6)
theorem hushref2_Tidy.L0_is (x0 : List (S64)) (x4 : List (S64)) (x5 : List Int) (x6 : Bool) : LimIs (fun k => hushref2_Tidy.l0 k x0 x4 x5 x6) (hushref2_Tidy.L0 x0 x4 x5 x6) := ⟨fun k => (hushref2_Tidy.mono_l k).1 x0 x4 x5 x6, rfl⟩
noncomputable def hushref2_Tidy.L1 (x4 : List (S64)) (x7 : Int) (x38 : List (S64)) (x39 : Int) (x40 : Int) : Option ((List (S64)) × Int) := lim (fun k => hushref2_Tidy.l1 k x4 x7 x38 x39 x40)
theorem hushref2_Tidy.L1_is (x4 : List (S64)) (x7 : Int) (x38 : List (S64)) (x39 : Int) (x40 : Int) : LimIs (fun k => hushref2_Tidy.l1 k x4 x7 x38 x39 x40) (hushref2_Tidy.L1 x4 x7 x38 x39 x40) := ⟨fun k => (hushref2_Tidy.mono_l k).2.1 x4 x7 x38 x39 x40, rfl⟩
noncomputable def hushref2_Tidy.F (l0 : List (S64)) : Option ((List (S64)) × Int) := lim (fun k => hushref2_Tidy.f k l0)
theorem hushref2_Tidy.F_is (l0 : List (S64)) : LimIs (fun k => hushref2_Tidy.f k l0) (hushref2_Tidy.F l0) := ⟨fun k => hushref2_Tidy.mono l0 k, rfl⟩
set_option maxRecDepth 100000 in
theorem hushref2_Tidy.L0_eq (x0 : List (S64)) (x4 : List (S64)) (x5 : List Int) (x6 : Bool) : hushref2_Tidy.L0 x0 x4 x5 x6 = if x6 = true then ((hushref2_Weight.F x0 x5).bind fun t203 => (if x4.length < 4398046511104 then ((hushref2_least.F x0 x5 true).bind fun bt207 => (hushref2_Tidy.L0 x0 (x4 ++ [(⟨x5, t203⟩ : S64)]) bt207.1 bt207.2)) else (none))) else (if (x4.length : Int) = 0 then (some (([] : List (S64)), 6)) else (if 0 < (x4.length : Int) then (hushref2_Tidy.L1 x4 ((rd_T64 x4 0).f1) x4 (x4.length : Int) 0) else (none))) := by
 refine LimIs.step' (hushref2_Tidy.L0_is x0 x4 x5 x6).1 (b := fun k => if x6 = true then ((hushref2_Weight.f k x0 x5).bind fun t203 => (if x4.length < 4398046511104 then ((hushref2_least.f k x0 x5 true).bind fun bt207 => (hushref2_Tidy.l0 k x0 (x4 ++ [(⟨x5, t203⟩ : S64)]) bt207.1 bt207.2)) else (none))) else (if (x4.length : Int) = 0 then (some (([] : List (S64)), 6)) else (if 0 < (x4.length : Int) then (hushref2_Tidy.l1 k x4 ((rd_T64 x4 0).f1) x4 (x4.length : Int) 0) else (none)))) (fun k => by first | rfl | rw [hushref2_Tidy.l0]) ?_
 repeat' first
  | (with_reducible exact hushref2_Weight.F_is _ _)
  | (with_reducible exact hushref2_least.F_is _ _ _)
  | (with_reducible exact hushref2_Tidy.L0_is _ _ _ _)
  | (with_reducible exact hushref2_Tidy.L1_is _ _ _ _ _)
  | (with_reducible exact LimIs.const _)
  | (with_reducible refine LimIs.ite ?_ ?_)
  | (with_reducible refine LimIs.bind ?_ (fun _ => ?_))
  | exact hushref2_Weight.F_is _ _
  | exact hushref2_least.F_is _ _ _
  | exact hushref2_Tidy.L0_is _ _ _ _
  | exact hushref2_Tidy.L1_is _ _ _ _ _
  | exact LimIs.const _
  | refine LimIs.ite ?_ ?_
  | refine LimIs.bind ?_ (fun _ => ?_)
set_option maxRecDepth 100000 in
theorem hushref2_Tidy.F_eq (l0 : List (S64)) : hushref2_Tidy.F l0 = (hushref2_least.F l0 ([] : List Int) false).bind fun bt199 => (hushref2_Tidy.L0 l0 ([] : List (S64)) bt199.1 bt199.2) := by
 refine LimIs.out (?_ : LimIs (fun k => (hushref2_least.f k l0 ([] : List Int) false).bind fun bt199 => (hushref2_Tidy.l0 k l0 ([] : List (S64)) bt199.1 bt199.2)) _)
 repeat' first
  | (with_reducible exact hushref2_least.F_is _ _ _)
  | (with_reducible exact hushref2_Tidy.L0_is _ _ _ _)
  | (with_reducible exact LimIs.const _)
  | (with_reducible refine LimIs.ite ?_ ?_)
  | (with_reducible refine LimIs.bind ?_ (fun _ => ?_))
  | exact hushref2_least.F_is _ _ _
  | exact hushref2_Tidy.L0_is _ _ _ _
  | exact LimIs.const _
  | refine LimIs.ite ?_ ?_
  | refine LimIs.bind ?_ (fun _ => ?_)
end Go.Proofs.Ytjbgnlhgjgnclaa.PB
end
section
namespace Go.Proofs.Ytjbgnlhgjgnclaa.DistPure
set_option linter.unusedVariables false
set_option linter.unusedSimpArgs false
open Go.RowKit Go.Proofs.Ytjbgnlhgjgnclaa.PB Go.Proofs.YtjbgnlhgjgnclaaW.PrintWords Go.Proofs.YtjbgnlhgjgnclaaW.PrintLast Go.Proofs.YtjbgnlhgjgnclaaW.PrintMore Go.Proofs.YtjbgnlhgjgnclaaW.EvKit
def Outs (l : List S64) (x : List Int) : Prop := ∃ p ∈ l, p.f0 = x ∧ 0 < p.f1
theorem wOf_ge : ∀ {l : List S64}, (∀ p ∈ l, 0 ≤ p.f1) → ∀ {p : S64}, p ∈ l → p.f1 ≤ wOf l p.f0
 | [], _, p, h => by cases h
 | q :: l, h0, p, h => by
  have h1 := h0 q (by simp)
  have h2 : ∀ p ∈ l, 0 ≤ p.f1 := fun x hx => h0 x (by simp [hx])
  rw [wOf_cons]
  rcases List.mem_cons.1 h with e | e
  ·
   subst e
   rw [if_pos rfl]
   have := (wOf_le h2 p.f0).1
   omega
  ·
   have := wOf_ge h2 e
   split <;> omega
theorem wOf_some : ∀ {l : List S64}, (∀ p ∈ l, 0 ≤ p.f1) → ∀ {o : List Int}, 0 < wOf l o → Outs l o
 | [], _, _, h => absurd h (Int.lt_irrefl 0)
 | q :: l, h0, o, h => by
  have h1 := h0 q (by simp)
  rw [wOf_cons] at h
  by_cases c : q.f0 = o ∧ 0 < q.f1
  ·
   exact ⟨q, by simp, c⟩
  ·
   have h2 : 0 < wOf l o := by
    by_cases e : q.f0 = o
    ·
     rw [if_pos e] at h
     have : ¬ 0 < q.f1 := fun x => c ⟨e, x⟩
     omega
    ·
     rw [if_neg e] at h; omega
   obtain ⟨p, hp, e⟩ := wOf_some (fun x hx => h0 x (by simp [hx])) h2
   exact ⟨p, by simp [hp], e⟩
theorem outs_iff {l D : List S64} (h : Canon l D) (h0 : ∀ p ∈ l, 0 ≤ p.f1) (x : List Int) : Outs l x ↔ ∃ q ∈ D, q.f0 = x := by
 have d0 : ∀ p ∈ D, 0 ≤ p.f1 := fun p hp => Int.le_of_lt (h.pos p hp)
 constructor
 ·
  rintro ⟨p, hp, e, hpos⟩
  have := wOf_ge h0 hp
  rw [e, ← h.w] at this
  exact wOf_mem (by omega)
 ·
  rintro ⟨q, hq, e⟩
  have := wOf_ge d0 hq
  have := h.pos q hq
  subst e
  exact wOf_some h0 (by rw [← h.w]; omega)
def Least (S : List Int → Prop) (o : List Int) (f : Bool) : Prop := (f = true → S o ∧ ∀ x, S x → cmpL o x ≤ 0) ∧ (f = false → ∀ x, ¬ S x)
theorem Least.new {S S' : List Int → Prop} {o v : List Int} (h : Least S o false) (hS : ∀ x, S' x ↔ S x ∨ x = v) : Least S' v true :=
 ⟨fun _ => ⟨(hS v).2 (.inr rfl), fun x hx => by
  rcases (hS x).1 hx with h1 | h1
  ·
   exact absurd h1 (h.2 rfl x)
  ·
   rw [h1, cmpL_self]; exact Int.le_refl 0⟩, fun c => by cases c⟩
theorem Least.lt {S S' : List Int → Prop} {o v : List Int} (h : Least S o true) (c : cmpL v o < 0) (hS : ∀ x, S' x ↔ S x ∨ x = v) : Least S' v true :=
 ⟨fun _ => ⟨(hS v).2 (.inr rfl), fun x hx => by
  rcases (hS x).1 hx with h1 | h1
  ·
   exact cmpL_le_trans _ _ _ (Int.le_of_lt c) ((h.1 rfl).2 x h1)
  ·
   rw [h1, cmpL_self]; exact Int.le_refl 0⟩, fun c => by cases c⟩
theorem Least.same {S S' : List Int → Prop} {o : List Int} {f : Bool} (h : Least S o f) (hS : ∀ x, S' x ↔ S x) : Least S' o f :=
 ⟨fun c => ⟨(hS o).2 (h.1 c).1, fun x hx => (h.1 c).2 x ((hS x).1 hx)⟩, fun c x hx => h.2 c x ((hS x).1 hx)⟩
theorem take_one {l : List S64} {i : Nat} (h : i < l.length) : l.take (i + 1) = l.take i ++ [l[i]] := by
 rw [List.take_add_one, List.getElem?_eq_getElem h]; rfl
theorem one_le {l : List S64} (h0 : ∀ p ∈ l, 0 ≤ p.f1) {p : S64} (h : p ∈ l) : p.f1 ≤ totOf l := by
 have h1 := wOf_ge h0 h
 have h2 := (wOf_le h0 p.f0).2
 omega
theorem tStep_len (d : List S64) (p : S64) : (tStep d p).length ≤ d.length + 1 := by
 unfold tStep
 split
 ·
  omega
 ·
  split
  ·
   split
   ·
    rw [List.length_append, List.length_dropLast, List.length_singleton]; omega
   ·
    rw [List.length_append, List.length_singleton]; omega
  ·
   rw [List.length_append, List.length_singleton]; omega
theorem tFold_len : ∀ (l d : List S64), (l.foldl tStep d).length ≤ d.length + l.length
 | [], d => by simp
 | p :: l, d => by
  have := tFold_len l (tStep d p)
  have := tStep_len d p
  rw [List.foldl_cons, List.length_cons]; omega
theorem tMerge_len (l : List S64) : (tMerge (sortP l)).length ≤ l.length := by
 have := tFold_len (sortP l) []
 rw [(sortP_perm l).length_eq, List.length_nil] at this
 unfold tMerge
 omega
theorem totOf_app : ∀ (a b : List S64), totOf (a ++ b) = totOf a + totOf b
 | [], b => by rw [totOf_nil]; exact (Int.zero_add _).symm
 | p :: a, b => by rw [List.cons_append, totOf_cons, totOf_cons, totOf_app a b]; omega
theorem totOf_perm {a b : List S64} (h : a.Perm b) : totOf a = totOf b := isum_perm (h.map _)
theorem tStep_tot (d : List S64) (p : S64) : totOf (tStep d p) = totOf d + p.f1 := by
 unfold tStep
 split
 ·
  omega
 ·
  split
  ·
   rename_i q hq
   obtain ⟨d0, e⟩ : ∃ d0, d = d0 ++ [q] := List.getLast?_eq_some_iff.1 hq
   subst e
   split
   ·
    rw [List.dropLast_concat, totOf_app, totOf_app, totOf_cons, totOf_cons, totOf_nil]
    show _ + (q.f1 + p.f1 + 0) = _
    omega
   ·
    rw [totOf_app _ [p], totOf_cons p, totOf_nil]; omega
  ·
   rw [totOf_app, totOf_cons, totOf_nil]; omega
theorem tFold_tot : ∀ (l d : List S64), totOf (l.foldl tStep d) = totOf d + totOf l
 | [], d => by rw [totOf_nil]; exact (Int.add_zero _).symm
 | p :: l, d => by rw [List.foldl_cons, tFold_tot, tStep_tot, totOf_cons]; omega
theorem tMerge_tot (l : List S64) : totOf (tMerge (sortP l)) = totOf l := by
 unfold tMerge
 rw [tFold_tot, totOf_perm (sortP_perm l), totOf_nil]; omega
end Go.Proofs.Ytjbgnlhgjgnclaa.DistPure
end
section
namespace Go.Proofs.Ytjbgnlhgjgnclaa.PB
open Go.RowKit Go.Proofs.YtjbgnlhgjgnclaaW.PrintWords Go.Proofs.YtjbgnlhgjgnclaaW.PrintLast Go.Proofs.YtjbgnlhgjgnclaaW.PrintMore
open Go.Proofs.YtjbgnlhgjgnclaaW.EvKit
set_option linter.unusedVariables false
noncomputable def hushref2_Make.L0 (x0 : List (S64)) (x6 : List (S64)) (x7 : Int) (x8 : Int) : Option ((List (S64)) × Int) := lim (fun k => hushref2_Make.l0 k x0 x6 x7 x8)
theorem hushref2_Make.L0_is (x0 : List (S64)) (x6 : List (S64)) (x7 : Int) (x8 : Int) : LimIs (fun k => hushref2_Make.l0 k x0 x6 x7 x8) (hushref2_Make.L0 x0 x6 x7 x8) := ⟨fun k => (hushref2_Make.mono_l k) x0 x6 x7 x8, rfl⟩
noncomputable def hushref6_Power.L0 (x0 : Int) (x1 : Int) (x5 : Int) (x6 : Int) : Option (Int) := lim (fun k => hushref6_Power.l0 k x0 x1 x5 x6)
theorem hushref6_Power.L0_is (x0 : Int) (x1 : Int) (x5 : Int) (x6 : Int) : LimIs (fun k => hushref6_Power.l0 k x0 x1 x5 x6) (hushref6_Power.L0 x0 x1 x5 x6) := ⟨fun k => (hushref6_Power.mono_l k) x0 x1 x5 x6, rfl⟩
noncomputable def hushref2_Make.F (l0 : List (S64)) : Option ((List (S64)) × Int) := lim (fun k => hushref2_Make.f k l0)
theorem hushref2_Make.F_is (l0 : List (S64)) : LimIs (fun k => hushref2_Make.f k l0) (hushref2_Make.F l0) := ⟨fun k => hushref2_Make.mono l0 k, rfl⟩
noncomputable def hushref6_Power.F (a0 : Int) (a1 : Int) : Option (Int) := lim (fun k => hushref6_Power.f k a0 a1)
theorem hushref6_Power.F_is (a0 : Int) (a1 : Int) : LimIs (fun k => hushref6_Power.f k a0 a1) (hushref6_Power.F a0 a1) := ⟨fun k => hushref6_Power.mono a0 a1 k, rfl⟩
set_option maxRecDepth 100000 in
theorem hushref2_Make.L0_eq (x0 : List (S64)) (x6 : List (S64)) (x7 : Int) (x8 : Int) : hushref2_Make.L0 x0 x6 x7 x8 = if x8 < x7 then (if 0 ≤ x8 then (if x8 < (x6.length : Int) then ((hushref2_Small.F ((rd_T64 x6 x8).f0)).bind fun t220 => (if t220 = true then (if ((rd_T64 x6 x8).f1) < 0 then (some (([] : List (S64)), 3)) else (if ((rd_T64 x6 x8).f1) > 1073741824 then (some (([] : List (S64)), 3)) else (hushref2_Make.L0 x0 x6 x7 (wrap64 (x8 + 1))))) else (some (([] : List (S64)), 3)))) else (none)) else (none)) else ((hushref2_Tidy.F x0).bind fun bt221 => (some (bt221.1, bt221.2))) := by
 refine LimIs.step' (hushref2_Make.L0_is x0 x6 x7 x8).1 (b := fun k => if x8 < x7 then (if 0 ≤ x8 then (if x8 < (x6.length : Int) then ((hushref2_Small.f k ((rd_T64 x6 x8).f0)).bind fun t220 => (if t220 = true then (if ((rd_T64 x6 x8).f1) < 0 then (some (([] : List (S64)), 3)) else (if ((rd_T64 x6 x8).f1) > 1073741824 then (some (([] : List (S64)), 3)) else (hushref2_Make.l0 k x0 x6 x7 (wrap64 (x8 + 1))))) else (some (([] : List (S64)), 3)))) else (none)) else (none)) else ((hushref2_Tidy.f k x0).bind fun bt221 => (some (bt221.1, bt221.2)))) (fun k => by first | rfl | rw [hushref2_Make.l0]) ?_
 repeat' first
  | (with_reducible exact hushref2_Small.F_is _)
  | (with_reducible exact hushref2_Make.L0_is _ _ _ _)
  | (with_reducible exact hushref2_Tidy.F_is _)
  | (with_reducible exact LimIs.const _)
  | (with_reducible refine LimIs.ite ?_ ?_)
  | (with_reducible refine LimIs.bind ?_ (fun _ => ?_))
  | exact hushref2_Small.F_is _
  | exact hushref2_Make.L0_is _ _ _ _
  | exact hushref2_Tidy.F_is _
  | exact LimIs.const _
  | refine LimIs.ite ?_ ?_
  | refine LimIs.bind ?_ (fun _ => ?_)
set_option maxRecDepth 100000 in
theorem hushref6_Power.L0_eq (x0 : Int) (x1 : Int) (x5 : Int) (x6 : Int) : hushref6_Power.L0 x0 x1 x5 x6 = if x6 < x1 then (if x5 ≤ 1073741824 then (hushref6_Power.L0 x0 x1 (wrap64 (x5 * x0)) (wrap64 (x6 + 1))) else (if x5 > 1073741824 then (some 1073741825) else (some x5))) else (if x5 > 1073741824 then (some 1073741825) else (some x5)) := by
 refine LimIs.step' (hushref6_Power.L0_is x0 x1 x5 x6).1 (b := fun k => if x6 < x1 then (if x5 ≤ 1073741824 then (hushref6_Power.l0 k x0 x1 (wrap64 (x5 * x0)) (wrap64 (x6 + 1))) else (if x5 > 1073741824 then (some 1073741825) else (some x5))) else (if x5 > 1073741824 then (some 1073741825) else (some x5))) (fun k => by first | rfl | rw [hushref6_Power.l0]) ?_
 repeat' first
  | (with_reducible exact hushref6_Power.L0_is _ _ _ _)
  | (with_reducible exact LimIs.const _)
  | (with_reducible refine LimIs.ite ?_ ?_)
  | (with_reducible refine LimIs.bind ?_ (fun _ => ?_))
  | exact hushref6_Power.L0_is _ _ _ _
  | exact LimIs.const _
  | refine LimIs.ite ?_ ?_
  | refine LimIs.bind ?_ (fun _ => ?_)
set_option maxRecDepth 100000 in
theorem hushref2_Make.F_eq (l0 : List (S64)) : hushref2_Make.F l0 = hushref2_Make.L0 l0 l0 (l0.length : Int) 0 := by
 refine LimIs.out (?_ : LimIs (fun k => hushref2_Make.l0 k l0 l0 (l0.length : Int) 0) _)
 repeat' first
  | (with_reducible exact hushref2_Make.L0_is _ _ _ _)
  | (with_reducible exact LimIs.const _)
  | (with_reducible refine LimIs.ite ?_ ?_)
  | (with_reducible refine LimIs.bind ?_ (fun _ => ?_))
  | exact hushref2_Make.L0_is _ _ _ _
  | exact LimIs.const _
  | refine LimIs.ite ?_ ?_
  | refine LimIs.bind ?_ (fun _ => ?_)
set_option maxRecDepth 100000 in
theorem hushref6_Power.F_eq (a0 : Int) (a1 : Int) : hushref6_Power.F a0 a1 = hushref6_Power.L0 a0 a1 1 0 := by
 refine LimIs.out (?_ : LimIs (fun k => hushref6_Power.l0 k a0 a1 1 0) _)
 repeat' first
  | (with_reducible exact hushref6_Power.L0_is _ _ _ _)
  | (with_reducible exact LimIs.const _)
  | (with_reducible refine LimIs.ite ?_ ?_)
  | (with_reducible refine LimIs.bind ?_ (fun _ => ?_))
  | exact hushref6_Power.L0_is _ _ _ _
  | exact LimIs.const _
  | refine LimIs.ite ?_ ?_
  | refine LimIs.bind ?_ (fun _ => ?_)
end Go.Proofs.Ytjbgnlhgjgnclaa.PB
end
section
namespace Go.Proofs.Ytjbgnlhgjgnclaa.DistPure
set_option linter.unusedVariables false
set_option linter.unusedSimpArgs false
open Go.RowKit Go.Proofs.Ytjbgnlhgjgnclaa.PB Go.Proofs.YtjbgnlhgjgnclaaW.PrintWords Go.Proofs.YtjbgnlhgjgnclaaW.PrintLast Go.Proofs.YtjbgnlhgjgnclaaW.PrintMore Go.Proofs.YtjbgnlhgjgnclaaW.EvKit
instance : DecidableEq S64 := fun p q => decidable_of_iff (p.f1 = q.f1 ∧ p.f0 = q.f0) (by cases p; cases q; simp only [S64.mk.injEq]; exact And.comm)
structure Bd (l : List S64) : Prop where
 len : l.length ≤ 1048576
 out : ∀ p ∈ l, p.f0.length ≤ 1048576
def okP (p : S64) : Bool := smallB p.f0 && (decide (0 ≤ p.f1) && decide (p.f1 ≤ 1073741824))
theorem okP_iff {p : S64} : okP p = true ↔ smallB p.f0 = true ∧ 0 ≤ p.f1 ∧ p.f1 ≤ 1073741824 := by simp [okP]
def makeP (l : List S64) : List S64 × Int := if l.all okP = true then tDone (tMerge (sortP l)) else ([], 3)
theorem all_ok {l : List S64} (h : l.all okP = true) : ∀ p ∈ l, 0 ≤ p.f1 ∧ p.f1 ≤ 1073741824 := fun p hp => (okP_iff.1 (List.all_eq_true.1 h p hp)).2
theorem all_tot {l : List S64} (h : l.all okP = true) (hl : l.length ≤ 1048576) : totOf l ≤ 4611686018427387904 := by
 have := tot_bd (all_ok h)
 omega
theorem tidyF (l : List S64) (hl : l.length ≤ 1048576) (h : l.all okP = true) : dist_tidy.F l = some (tDone (tMerge (sortP l))) := by
 rw [dist_tidy.F_eq, if_pos]
 unfold tGuard
 have := all_tot h hl
 simp only [Bool.and_eq_true, decide_eq_true_eq, List.all_eq_true]
 exact ⟨⟨by omega, fun p hp => (all_ok h p hp).1⟩, this⟩
theorem cloneF (o : List Int) (h : o.length ≤ 1048576) : slices_Clone_int_int.f o = some o := by
 unfold slices_Clone_int_int.f
 rw [if_pos (by omega)]
theorem make_loop (l : List S64) (h : Bd l) : ∀ (n i : Nat), i + n = l.length → (l.take i).all okP = true →
  dist_Make.L0 (l.take i) l (l.length : Int) (i : Int) = some (if (l.drop i).all okP = true then tDone (tMerge (sortP l)) else ([], 3)) := by
 have hl := h.len
 intro n
 induction n with
 | zero =>
  intro i hi ha
  rw [List.take_of_length_le (show l.length ≤ i by omega)] at ha ⊢
  rw [dist_Make.L0_eq, if_neg (by omega), tidyF l h.len ha, Option.bind_some, List.drop_of_length_le (show l.length ≤ i by omega)]
  rfl
 | succ n ih =>
  intro i hi ha
  have hxi : i < l.length := by omega
  have ho := h.out _ (mem_at hxi)
  rw [dist_Make.L0_eq, if_pos (by omega), if_pos (by omega), if_pos (by omega), rd32At hxi, smallF _ ho, Option.bind_some, List.drop_eq_getElem_cons hxi, List.all_cons]
  have e : okP l[i] = (smallB l[i].f0 && (decide (0 ≤ l[i].f1) && decide (l[i].f1 ≤ 1073741824))) := rfl
  cases c : smallB l[i].f0 with
  | false =>
   rw [if_neg (by decide), e, c]
   rfl
  | true =>
   rw [if_pos rfl]
   by_cases c1 : l[i].f1 < 0
   ·
    rw [if_pos c1, if_neg]
    rw [e, decide_eq_false (show ¬ 0 ≤ l[i].f1 by omega)]
    simp
   ·
    rw [if_neg c1]
    by_cases c2 : l[i].f1 > 1073741824
    ·
     rw [if_pos c2, if_neg]
     rw [e, decide_eq_false (show ¬ l[i].f1 ≤ 1073741824 by omega)]
     simp
    ·
     have hok : okP l[i] = true := okP_iff.2 ⟨c, by omega, by omega⟩
     rw [if_neg c2, cloneF _ ho, Option.bind_some, if_pos (by rw [List.length_take]; omega), hok, Bool.true_and, w1 (by omega)]
     have e2 : l.take i ++ [(⟨l[i].f0, l[i].f1⟩ : S64)] = l.take (i + 1) := (take_one hxi).symm
     rw [e2]
     exact ih (i + 1) (by omega) (by rw [take_one hxi, List.all_append, ha]; simp [hok])
theorem makeF1 (l : List S64) (h : Bd l) : dist_Make.F l = some (makeP l) := by
 rw [dist_Make.F_eq]
 exact make_loop l h l.length 0 (by omega) (by simp)
theorem tDone_bd {D : List S64} (h : Bd D) : Bd (tDone D).1 := by
 unfold tDone
 split
 ·
  exact ⟨by simp, by simp⟩
 ·
  split
  ·
   exact ⟨by simp, by simp⟩
  ·
   refine ⟨by simpa using h.len, fun p hp => ?_⟩
   obtain ⟨q, hq, rfl⟩ := List.mem_map.1 hp
   exact h.out q hq
theorem makeP_bd {l : List S64} (h : Bd l) : Bd (makeP l).1 := by
 unfold makeP
 split
 ·
  rename_i c
  have h0 : ∀ p ∈ l, 0 ≤ p.f1 := fun p hp => (all_ok c p hp).1
  refine tDone_bd ⟨?_, fun q hq => ?_⟩
  ·
   have := tMerge_len l
   have := h.len
   omega
  ·
   obtain ⟨p, hp, e, _⟩ := (outs_iff (tidy_canon h0) h0 q.f0).2 ⟨q, hq, rfl⟩
   rw [← e]
   exact h.out p hp
 ·
  exact ⟨by simp, by simp⟩
theorem s32_eq {p q : S64} : p = q ↔ p.f1 = q.f1 ∧ p.f0 = q.f0 := by
 cases p; cases q
 simp only [S64.mk.injEq]
 exact And.comm
theorem rsame_loop (a b : List S64) (ha : Bd a) (hb : Bd b) (hl : a.length = b.length) : ∀ (n i : Nat), i + n = a.length →
  hushref2_Same.L0 a b (a.length : Int) (i : Int) = some (decide (a.drop i = b.drop i)) := by
 have hla := ha.len
 intro n
 induction n with
 | zero =>
  intro i hi
  rw [hushref2_Same.L0_eq, if_neg (by omega), List.drop_of_length_le (show a.length ≤ i by omega), List.drop_of_length_le (show b.length ≤ i by omega)]
  rfl
 | succ n ih =>
  intro i hi
  have h1 : i < a.length := by omega
  have h2 : i < b.length := by omega
  rw [hushref2_Same.L0_eq, if_pos (by omega), if_pos (by omega), if_pos (by omega), if_pos (by omega), rd32At h1, rd32At h2, List.drop_eq_getElem_cons h1, List.drop_eq_getElem_cons h2]
  by_cases c1 : a[i].f1 = b[i].f1
  ·
   rw [if_pos c1, rcmpF _ _ (ha.out _ (mem_at h1)) (hb.out _ (mem_at h2)), Option.bind_some]
   by_cases c2 : a[i].f0 = b[i].f0
   ·
    rw [if_pos (cmpL0.2 c2), w1 (by omega), ih (i + 1) (by omega), show a[i] = b[i] from s32_eq.2 ⟨c1, c2⟩]
    congr 1
    rw [decide_eq_decide]
    exact ⟨fun h => by rw [h], fun h => by injection h⟩
   ·
    rw [if_neg (fun h => c2 (cmpL0.1 h))]
    congr 1
    symm
    rw [decide_eq_false_iff_not]
    intro h
    injection h with h _
    exact c2 (by rw [h])
  ·
   rw [if_neg c1]
   congr 1
   symm
   rw [decide_eq_false_iff_not]
   intro h
   injection h with h _
   exact c1 (by rw [h])
theorem rsameF (a b : List S64) (ha : Bd a) (hb : Bd b) : hushref2_Same.F a b = some (decide (a = b)) := by
 rw [hushref2_Same.F_eq]
 by_cases h : a.length = b.length
 ·
  rw [if_pos (by omega)]
  exact rsame_loop a b ha hb h a.length 0 (by omega)
 ·
  rw [if_neg (by omega)]
  congr 1
  symm
  rw [decide_eq_false_iff_not]
  intro e
  exact h (by rw [e])
theorem same_loop (a b : List S64) (ha : Bd a) (hb : Bd b) (hl : a.length = b.length) : ∀ (n i : Nat), i + n = a.length →
  api_Part.L0 b a (a.length : Int) (i : Int) = some (decide (a.drop i = b.drop i)) := by
 have hla := ha.len
 intro n
 induction n with
 | zero =>
  intro i hi
  rw [api_Part.L0_eq, if_neg (by omega), List.drop_of_length_le (show a.length ≤ i by omega), List.drop_of_length_le (show b.length ≤ i by omega)]
  rfl
 | succ n ih =>
  intro i hi
  have h1 : i < a.length := by omega
  have h2 : i < b.length := by omega
  rw [api_Part.L0_eq, if_pos (by omega), if_pos (by omega), if_pos (by omega), if_pos (by omega), rd32At h1, rd32At h2, List.drop_eq_getElem_cons h1, List.drop_eq_getElem_cons h2, dist_same_1.F_eq]
  by_cases c1 : a[i].f1 = b[i].f1
  ·
   rw [if_pos c1, eqF _ _ (ha.out _ (mem_at h1)), Option.bind_some, Option.bind_some]
   by_cases c2 : a[i].f0 = b[i].f0
   ·
    rw [if_pos (decide_eq_true c2), w1 (by omega), ih (i + 1) (by omega), show a[i] = b[i] from s32_eq.2 ⟨c1, c2⟩]
    congr 1
    rw [decide_eq_decide]
    exact ⟨fun h => by rw [h], fun h => by injection h⟩
   ·
    rw [if_neg (by simpa using c2)]
    congr 1
    symm
    rw [decide_eq_false_iff_not]
    intro h
    injection h with h _
    exact c2 (by rw [h])
  ·
   rw [if_neg c1, Option.bind_some, if_neg (by decide)]
   congr 1
   symm
   rw [decide_eq_false_iff_not]
   intro h
   injection h with h _
   exact c1 (by rw [h])
theorem sameF (a b : List S64) (ha : Bd a) (hb : Bd b) : dist_same.F a b = some (decide (a = b)) := by
 rw [dist_same.F_eq, api_Part.F_eq]
 by_cases h : a.length = b.length
 ·
  rw [if_pos (by omega)]
  rw [show (0 : Int) = ((0 : Nat) : Int) from rfl, same_loop a b ha hb h a.length 0 (by omega)]
  rfl
 ·
  rw [if_neg (by omega), Option.bind_some]
  congr 1
  symm
  rw [decide_eq_false_iff_not]
  intro e
  exact h (by rw [e])
def wrongP (d : List S64) : Int := if (makeP d).2 = 0 then (if d = (makeP d).1 then 0 else 2) else (makeP d).2
theorem wrongF (d : List S64) (h : Bd d) : dist_Wrong.F d = some (wrongP d) := by
 rw [dist_Wrong.F_eq, makeF1 d h, Option.bind_some]
 unfold wrongP
 by_cases c : (makeP d).2 = 0
 ·
  rw [if_pos c, if_pos c, sameF _ _ h (makeP_bd h), Option.bind_some]
  by_cases c2 : d = (makeP d).1
  ·
   rw [if_pos (decide_eq_true c2), if_pos c2, c]
  ·
   rw [if_neg (by simpa using c2), if_neg c2]
 ·
  rw [if_neg c, if_neg c]
structure Right (d : List S64) : Prop where
 ok : d.all okP = true
 st : Strict d
 pos : 0 < totOf d
 few : totOf d ≤ 1073741824
 much : d.length ≤ 4096
theorem div_sum (g : Int) (hg : 0 < g) : ∀ (D : List S64), totOf (D.map (fun p => (⟨p.f0, p.f1 / g⟩ : S64))) ≤ totOf D / g
 | [] => by rw [List.map_nil, totOf_nil, Int.zero_ediv]; exact Int.le_refl 0
 | p :: D => by
  have ih := div_sum g hg D
  rw [List.map_cons, totOf_cons, totOf_cons]
  have h1 := Int.ediv_mul_le p.f1 (show g ≠ 0 by omega)
  have h2 := Int.ediv_mul_le (totOf D) (show g ≠ 0 by omega)
  have h3 : p.f1 / g + totOf D / g ≤ (p.f1 + totOf D) / g := by
   rw [Int.le_ediv_iff_mul_le hg, Int.add_mul]
   omega
  show p.f1 / g + _ ≤ _
  omega
theorem right_of {d : List S64} (h : wrongP d = 0) : Right d := by
 unfold wrongP at h
 by_cases c : (makeP d).2 = 0
 ·
  rw [if_pos c] at h
  by_cases c2 : d = (makeP d).1
  ·
   unfold makeP at c c2
   by_cases ho : d.all okP = true
   ·
    rw [if_pos ho] at c c2
    have h0 : ∀ p ∈ d, 0 ≤ p.f1 := fun p hp => (all_ok ho p hp).1
    have hc := tidy_canon h0
    have htot := tMerge_tot d
    unfold tDone at c c2
    by_cases e1 : tMerge (sortP d) = []
    ·
     rw [if_pos e1] at c; cases c
    ·
     rw [if_neg e1] at c c2
     have hg := gOf_pos hc.pos e1
     by_cases e2 : totOf (tMerge (sortP d)) / (gOf (tMerge (sortP d)) : Int) > 1073741824 ∨ (tMerge (sortP d)).length > 4096
     ·
      rw [if_pos e2] at c; cases c
     ·
      rw [if_neg e2] at c2
      dsimp only at c2
      have hs := div_sum (gOf (tMerge (sortP d)) : Int) (by omega) (tMerge (sortP d))
      have htot2 : 0 < totOf (tMerge (sortP d)) := by
       cases hD : tMerge (sortP d) with
       | nil => exact absurd hD e1
       | cons q D =>
        have hp := hc.pos q (by rw [hD]; simp)
        have h2 := one_le (l := tMerge (sortP d)) (fun p hp => Int.le_of_lt (hc.pos p hp)) (p := q) (by rw [hD]; simp)
        rw [hD] at h2
        omega
      refine ⟨ho, ?_, by omega, ?_, ?_⟩
      ·
       rw [c2]
       unfold Strict
       rw [List.pairwise_map]
       exact hc.st
      ·
       rw [← c2] at hs
       omega
      ·
       have := congrArg List.length c2
       rw [List.length_map] at this
       omega
   ·
    rw [if_neg ho] at c; cases c
  ·
   rw [if_neg c2] at h; cases h
 ·
  rw [if_neg c] at h; exact absurd h c
end Go.Proofs.Ytjbgnlhgjgnclaa.DistPure
end
section
namespace Go.Proofs.Ytjbgnlhgjgnclaa.DistPure
set_option linter.unusedVariables false
set_option linter.unusedSimpArgs false
open Go.RowKit Go.Proofs.Ytjbgnlhgjgnclaa.PB Go.Proofs.YtjbgnlhgjgnclaaW.PrintWords Go.Proofs.YtjbgnlhgjgnclaaW.PrintLast Go.Proofs.YtjbgnlhgjgnclaaW.PrintMore Go.Proofs.YtjbgnlhgjgnclaaW.EvKit
theorem gOf_dvd_go : ∀ (d : List S64) (g : Nat), d.foldl (fun g p => Nat.gcd p.f1.toNat g) g ∣ g ∧ ∀ p ∈ d, d.foldl (fun g p => Nat.gcd p.f1.toNat g) g ∣ p.f1.toNat
 | [], g => ⟨Nat.dvd_refl _, fun p hp => by cases hp⟩
 | q :: d, g => by
  rw [List.foldl_cons]
  obtain ⟨h1, h2⟩ := gOf_dvd_go d (Nat.gcd q.f1.toNat g)
  refine ⟨Nat.dvd_trans h1 (Nat.gcd_dvd_right _ _), fun p hp => ?_⟩
  rcases List.mem_cons.1 hp with e | e
  ·
   rw [e]; exact Nat.dvd_trans h1 (Nat.gcd_dvd_left _ _)
  ·
   exact h2 p e
theorem gOf_dvd {d : List S64} {p : S64} (h : p ∈ d) : gOf d ∣ p.f1.toNat := (gOf_dvd_go d 0).2 p h
theorem gOf_max_go : ∀ (d : List S64) (g n : Nat), n ∣ g → (∀ p ∈ d, n ∣ p.f1.toNat) → n ∣ d.foldl (fun g p => Nat.gcd p.f1.toNat g) g
 | [], g, n, h, _ => h
 | q :: d, g, n, h, h0 => gOf_max_go d _ n (Nat.dvd_gcd (h0 q (by simp)) h) (fun p hp => h0 p (by simp [hp]))
theorem gOf_max {d : List S64} {n : Nat} (h : ∀ p ∈ d, n ∣ p.f1.toNat) : n ∣ gOf d := gOf_max_go d 0 n (Nat.dvd_zero n) h
theorem right_form {d : List S64} (h : wrongP d = 0) : ∃ D : List S64, (∀ p ∈ D, 0 < p.f1) ∧ D ≠ [] ∧ d = D.map (fun p => (⟨p.f0, p.f1 / (gOf D : Int)⟩ : S64)) := by
 unfold wrongP at h
 by_cases c : (makeP d).2 = 0
 ·
  rw [if_pos c] at h
  by_cases c2 : d = (makeP d).1
  ·
   unfold makeP at c c2
   by_cases ho : d.all okP = true
   ·
    rw [if_pos ho] at c c2
    have hc := tidy_canon (fun p hp => (all_ok ho p hp).1)
    unfold tDone at c c2
    by_cases e1 : tMerge (sortP d) = []
    ·
     rw [if_pos e1] at c; cases c
    ·
     rw [if_neg e1] at c c2
     by_cases e2 : totOf (tMerge (sortP d)) / (gOf (tMerge (sortP d)) : Int) > 1073741824 ∨ (tMerge (sortP d)).length > 4096
     ·
      rw [if_pos e2] at c; cases c
     ·
      rw [if_neg e2] at c2
      exact ⟨_, hc.pos, e1, c2⟩
   ·
    rw [if_neg ho] at c; cases c
  ·
   rw [if_neg c2] at h; cases h
 ·
  rw [if_neg c] at h; exact absurd h c
theorem div_pos' {p : Int} {g : Nat} (hp : 0 < p) (hg : 0 < g) (hd : g ∣ p.toNat) : ∃ m : Nat, 0 < m ∧ p / (g : Int) = (m : Int) ∧ p.toNat = g * m := by
 obtain ⟨m, hm⟩ := hd
 have e : p = ((g * m : Nat) : Int) := by rw [← hm]; omega
 refine ⟨m, ?_, ?_, hm⟩
 ·
  rcases Nat.eq_zero_or_pos m with h | h
  ·
   rw [h, Nat.mul_zero] at hm; omega
  ·
   exact h
 ·
  rw [e, Int.natCast_mul, Int.mul_ediv_cancel_left _ (by omega)]
theorem right_more {d : List S64} (h : wrongP d = 0) : (∀ p ∈ d, 0 < p.f1) ∧ gOf d = 1 := by
 obtain ⟨D, h0, hn, rfl⟩ := right_form h
 have hg := gOf_pos h0 hn
 have key : ∀ p ∈ D, ∃ m : Nat, 0 < m ∧ p.f1 / (gOf D : Int) = (m : Int) ∧ p.f1.toNat = gOf D * m := fun p hp => div_pos' (h0 p hp) hg (gOf_dvd hp)
 constructor
 ·
  intro p hp
  obtain ⟨q, hq, rfl⟩ := List.mem_map.1 hp
  obtain ⟨m, h1, h2, _⟩ := key q hq
  show 0 < q.f1 / (gOf D : Int)
  omega
 ·
  have h1 : gOf D * gOf (D.map (fun p => (⟨p.f0, p.f1 / (gOf D : Int)⟩ : S64))) ∣ gOf D := gOf_max (fun q hq => by
   obtain ⟨m, _, h2, h3⟩ := key q hq
   have h4 := gOf_dvd (List.mem_map.2 ⟨q, hq, rfl⟩ : (⟨q.f0, q.f1 / (gOf D : Int)⟩ : S64) ∈ D.map (fun p => (⟨p.f0, p.f1 / (gOf D : Int)⟩ : S64)))
   rw [h3]
   refine Nat.mul_dvd_mul_left _ ?_
   have h5 : (q.f1 / (gOf D : Int)).toNat = m := by rw [h2]; omega
   rw [← h5]
   exact h4)
  have h2 := Nat.le_of_dvd hg h1
  have h3 : 0 < gOf (D.map (fun p => (⟨p.f0, p.f1 / (gOf D : Int)⟩ : S64))) := by
   refine gOf_pos (fun p hp => ?_) (by simpa using hn)
   obtain ⟨q, hq, rfl⟩ := List.mem_map.1 hp
   obtain ⟨m, h1, h2, _⟩ := key q hq
   show 0 < q.f1 / (gOf D : Int)
   omega
  generalize gOf (D.map (fun p => (⟨p.f0, p.f1 / (gOf D : Int)⟩ : S64))) = x at *
  rcases Nat.lt_or_ge 1 x with c | c
  ·
   have := Nat.mul_lt_mul_of_pos_left c hg
   omega
  ·
   omega
def outsL (a b : List S64) : List (List Int) := a.map (·.f0) ++ (b.filter (fun p => decide (wOf a p.f0 = 0))).map (·.f0)
def pw (a b : List S64) (o : List Int) : Int × Int := (wOf a o, wOf b o)
theorem wOf_skip {p : S64} {a : List S64} {o : List Int} (h : p.f0 ≠ o) : wOf (p :: a) o = wOf a o := by rw [wOf_cons, if_neg h, Int.zero_add]
theorem wOf_hit {p : S64} {a : List S64} (h : Strict (p :: a)) : wOf (p :: a) p.f0 = p.f1 := by rw [wOf_cons, if_pos rfl, strict_head h, Int.add_zero]
theorem lt_ne {a b : List Int} (h : cmpL a b < 0) : a ≠ b := fun e => by rw [e, cmpL_self] at h; exact absurd h (Int.lt_irrefl 0)
theorem below_none {o : List Int} {b : List S64} (h : ∀ q ∈ b, cmpL o q.f0 < 0) : wOf b o = 0 := wOf_none _ _ (fun q hq e => lt_ne (h q hq) e.symm)
theorem outs_mem {a b : List S64} {o : List Int} (h : o ∈ outsL a b) : (∃ p ∈ a, p.f0 = o) ∨ (∃ q ∈ b, q.f0 = o) := by
 rcases List.mem_append.1 h with h | h
 ·
  exact .inl (List.mem_map.1 h)
 ·
  obtain ⟨q, hq, e⟩ := List.mem_map.1 h
  exact .inr ⟨q, (List.mem_filter.1 hq).1, e⟩
theorem filter_skip {p : S64} {a : List S64} : ∀ {b : List S64}, (∀ q ∈ b, p.f0 ≠ q.f0) → b.filter (fun q => decide (wOf (p :: a) q.f0 = 0)) = b.filter (fun q => decide (wOf a q.f0 = 0)) := fun h =>
 List.filter_congr (fun q hq => by rw [wOf_skip (h q hq)])
theorem side_l {p : S64} {a b : List S64} (hs : Strict (p :: a)) (hb : ∀ q ∈ b, cmpL p.f0 q.f0 < 0) : (outsL (p :: a) b).map (pw (p :: a) b) = (p.f1, 0) :: (outsL a b).map (pw a b) := by
 have hne : ∀ q ∈ b, p.f0 ≠ q.f0 := fun q hq => lt_ne (hb q hq)
 unfold outsL
 rw [filter_skip hne, List.map_cons, List.cons_append, List.map_cons]
 congr 1
 ·
  unfold pw; rw [wOf_hit hs, below_none hb]
 ·
  refine List.map_congr_left (fun o ho => ?_)
  have ho' : p.f0 ≠ o := by
   rcases outs_mem ho with ⟨q, hq, e⟩ | ⟨q, hq, e⟩
   ·
    rw [← e]; exact lt_ne ((List.pairwise_cons.1 hs).1 q hq)
   ·
    rw [← e]; exact hne q hq
  unfold pw; rw [wOf_skip ho']
theorem side_r {q : S64} {a b : List S64} (hs : Strict (q :: b)) (ha : ∀ p ∈ a, cmpL q.f0 p.f0 < 0) : ((outsL a (q :: b)).map (pw a (q :: b))).Perm ((0, q.f1) :: (outsL a b).map (pw a b)) := by
 have e0 : wOf a q.f0 = 0 := below_none ha
 have e1 : outsL a (q :: b) = a.map (·.f0) ++ q.f0 :: (b.filter (fun p => decide (wOf a p.f0 = 0))).map (·.f0) := by
  unfold outsL; rw [List.filter_cons_of_pos (by simpa using e0), List.map_cons]
 rw [e1]
 refine ((List.perm_middle (l₁ := a.map (·.f0))).map _).trans ?_
 rw [List.map_cons]
 have e2 : pw a (q :: b) q.f0 = (0, q.f1) := by unfold pw; rw [e0, wOf_hit hs]
 rw [e2]
 refine List.Perm.cons _ (List.Perm.of_eq ?_)
 refine List.map_congr_left (fun o ho => ?_)
 have ho' : q.f0 ≠ o := by
  rcases outs_mem (a := a) (b := b) ho with ⟨p, hp, e⟩ | ⟨p, hp, e⟩
  ·
   rw [← e]; exact lt_ne (ha p hp)
  ·
   rw [← e]; exact lt_ne ((List.pairwise_cons.1 hs).1 p hp)
 unfold pw; rw [wOf_skip ho']
theorem side_e {p q : S64} {a b : List S64} (hp : 0 < p.f1) (hsa : Strict (p :: a)) (hsb : Strict (q :: b)) (e : p.f0 = q.f0) : (outsL (p :: a) (q :: b)).map (pw (p :: a) (q :: b)) = (p.f1, q.f1) :: (outsL a b).map (pw a b) := by
 have hne : ∀ r ∈ b, p.f0 ≠ r.f0 := fun r hr => by rw [e]; exact lt_ne ((List.pairwise_cons.1 hsb).1 r hr)
 have h1 : wOf (p :: a) q.f0 = p.f1 := by rw [← e]; exact wOf_hit hsa
 unfold outsL
 rw [List.filter_cons_of_neg (by rw [h1]; simp; omega), filter_skip hne, List.map_cons, List.cons_append, List.map_cons]
 congr 1
 ·
  unfold pw; rw [wOf_hit hsa, e, wOf_hit hsb]
 ·
  refine List.map_congr_left (fun o ho => ?_)
  have ho' : p.f0 ≠ o := by
   rcases outs_mem (a := a) (b := b) ho with ⟨r, hr, e2⟩ | ⟨r, hr, e2⟩
   ·
    rw [← e2]; exact lt_ne ((List.pairwise_cons.1 hsa).1 r hr)
   ·
    rw [← e2]; exact hne r hr
  unfold pw; rw [wOf_skip ho', wOf_skip (by rw [← e]; exact ho')]
theorem strict_tail {p : S64} {a : List S64} (h : Strict (p :: a)) : Strict a := (List.pairwise_cons.1 h).2
theorem pairs_perm : ∀ (n : Nat) (a b : List S64), a.length + b.length ≤ n → Strict a → Strict b → (∀ p ∈ a, 0 < p.f1) → (pairsL a b).Perm ((outsL a b).map (pw a b))
 | n, [], [], _, _, _, _ => by rw [pairs_nil]; exact List.Perm.refl _
 | 0, _ :: _, _, h, _, _, _ => by simp at h
 | 0, [], _ :: _, h, _, _, _ => by simp at h
 | n + 1, [], q :: b, h, ha, hb, h0 => by
  rw [pairs_r]
  exact (List.Perm.cons _ (pairs_perm n [] b (by simp at h ⊢; omega) ha (strict_tail hb) h0)).trans (side_r hb (fun p hp => by cases hp)).symm
 | n + 1, p :: a, [], h, ha, hb, h0 => by
  rw [pairs_l, side_l ha (fun q hq => by cases hq)]
  exact List.Perm.cons _ (pairs_perm n a [] (by simp at h ⊢; omega) (strict_tail ha) hb (fun x hx => h0 x (by simp [hx])))
 | n + 1, p :: a, q :: b, h, ha, hb, h0 => by
  by_cases h1 : cmpL p.f0 q.f0 < 0
  ·
   rw [pairs_lt _ _ h1, side_l ha (fun r hr => by
    rcases List.mem_cons.1 hr with c | c
    ·
     rw [c]; exact h1
    ·
     exact cmpL_trans _ _ _ h1 ((List.pairwise_cons.1 hb).1 r c))]
   exact List.Perm.cons _ (pairs_perm n a (q :: b) (by simp at h ⊢; omega) (strict_tail ha) hb (fun x hx => h0 x (by simp [hx])))
  ·
   by_cases h2 : cmpL p.f0 q.f0 > 0
   ·
    rw [pairs_gt _ _ h2]
    have h3 : cmpL q.f0 p.f0 < 0 := by have := cmpL_swap p.f0 q.f0; omega
    exact (List.Perm.cons _ (pairs_perm n (p :: a) b (by simp at h ⊢; omega) ha (strict_tail hb) h0)).trans (side_r hb (fun r hr => by
     rcases List.mem_cons.1 hr with c | c
     ·
      rw [c]; exact h3
     ·
      exact cmpL_trans _ _ _ h3 ((List.pairwise_cons.1 ha).1 r c))).symm
   ·
    rw [pairs_eq _ _ (by omega), side_e (h0 p (by simp)) ha hb (cmpL_eq _ _ (by omega))]
    exact List.Perm.cons _ (pairs_perm n a b (by simp at h ⊢; omega) (strict_tail ha) (strict_tail hb) (fun x hx => h0 x (by simp [hx])))
theorem pairs_perm' {a b : List S64} (ha : Strict a) (hb : Strict b) (h0 : ∀ p ∈ a, 0 < p.f1) : (pairsL a b).Perm ((outsL a b).map (pw a b)) := pairs_perm _ a b (Nat.le_refl _) ha hb h0
end Go.Proofs.Ytjbgnlhgjgnclaa.DistPure
end
section
namespace Go.Proofs.Ytjbgnlhgjgnclaa.DistPure
set_option linter.unusedVariables false
set_option linter.unusedSimpArgs false
open Go.RowKit Go.Proofs.Ytjbgnlhgjgnclaa.PB Go.Proofs.YtjbgnlhgjgnclaaW.PrintWords Go.Proofs.YtjbgnlhgjgnclaaW.PrintLast Go.Proofs.YtjbgnlhgjgnclaaW.PrintMore Go.Proofs.YtjbgnlhgjgnclaaW.EvKit
def le2 (f g : Nat × Nat) : Prop := f.1 * g.2 ≤ g.1 * f.2
def pos2 (f : Nat × Nat) : Prop := 1 ≤ f.1 ∧ 1 ≤ f.2
theorem le2_refl (f : Nat × Nat) : le2 f f := Nat.le_refl _
theorem le2_trans {f g h : Nat × Nat} (hg : 1 ≤ g.2) (h1 : le2 f g) (h2 : le2 g h) : le2 f h := by
 unfold le2 at *
 have a : f.1 * g.2 * h.2 ≤ g.1 * f.2 * h.2 := Nat.mul_le_mul_right _ h1
 have b : g.1 * h.2 * f.2 ≤ h.1 * g.2 * f.2 := Nat.mul_le_mul_right _ h2
 have c : f.1 * h.2 * g.2 ≤ h.1 * f.2 * g.2 := by
  calc f.1 * h.2 * g.2 = f.1 * g.2 * h.2 := by rw [Nat.mul_assoc, Nat.mul_comm h.2, ← Nat.mul_assoc]
   _ ≤ g.1 * f.2 * h.2 := a
   _ = g.1 * h.2 * f.2 := by rw [Nat.mul_assoc, Nat.mul_comm f.2, ← Nat.mul_assoc]
   _ ≤ h.1 * g.2 * f.2 := b
   _ = h.1 * f.2 * g.2 := by rw [Nat.mul_assoc, Nat.mul_comm g.2, ← Nat.mul_assoc]
 exact Nat.le_of_mul_le_mul_right c hg
structure Mx (s : Nat × Nat) (F : List (Nat × Nat)) : Prop where
 pos : pos2 s
 one : le2 (1, 1) s
 ub : ∀ f ∈ F, le2 f s
 got : le2 s (1, 1) ∨ ∃ f ∈ F, le2 s f
theorem Mx.start : Mx (1, 1) [] := ⟨⟨Nat.le_refl _, Nat.le_refl _⟩, le2_refl _, fun f hf => (by cases hf), .inl (le2_refl _)⟩
theorem Mx.keep {s f : Nat × Nat} {F : List (Nat × Nat)} (h : Mx s F) (hf : le2 f s) : Mx s (F ++ [f]) :=
 ⟨h.pos, h.one, fun g hg => by
  rcases List.mem_append.1 hg with hg | hg
  ·
   exact h.ub g hg
  ·
   rw [List.mem_singleton.1 hg]; exact hf, by
  rcases h.got with h | ⟨g, hg, h⟩
  ·
   exact .inl h
  ·
   exact .inr ⟨g, by simp [hg], h⟩⟩
theorem Mx.take {s f t : Nat × Nat} {F : List (Nat × Nat)} (h : Mx s F) (ht : pos2 t) (hf : le2 s f) (h1 : le2 f t) (h2 : le2 t f) (hfp : pos2 f) : Mx t (F ++ [f]) :=
 ⟨ht, le2_trans hfp.2 (le2_trans h.pos.2 h.one hf) h1, fun g hg => by
  rcases List.mem_append.1 hg with hg | hg
  ·
   exact le2_trans hfp.2 (le2_trans h.pos.2 (h.ub g hg) hf) h1
  ·
   rw [List.mem_singleton.1 hg]; exact h1, .inr ⟨f, by simp, h2⟩⟩
theorem Mx.le {s t : Nat × Nat} {F G : List (Nat × Nat)} (h : Mx s F) (k : Mx t G) (hF : ∀ f ∈ F, pos2 f ∧ ∃ g ∈ G, pos2 g ∧ le2 f g) : le2 s t := by
 rcases h.got with c | ⟨f, hf, c⟩
 ·
  exact le2_trans (Nat.le_refl 1) c k.one
 ·
  obtain ⟨h1, g, hg, h2, h3⟩ := hF f hf
  exact le2_trans h1.2 c (le2_trans h2.2 h3 (k.ub g hg))
def hl (ta tb : Nat) (x : Int × Int) : Nat × Nat := (fHi ta tb x, fLo ta tb x)
def uv (ta tb : Nat) (x : Int × Int) : Nat × Nat := (x.1.toNat * tb, x.2.toNat * ta)
theorem div_same {a g : Nat} (h : g ∣ a) : a / g * g = a := Nat.div_mul_cancel h
theorem UV_eq {ta tb : Nat} {x : Int × Int} (hg : 1 ≤ fG ta tb x) : le2 (hl ta tb x) (fU ta tb x, fV ta tb x) ∧ le2 (fU ta tb x, fV ta tb x) (hl ta tb x) ∧ Nat.gcd (fU ta tb x) (fV ta tb x) = 1 := by
 have d1 : fG ta tb x ∣ fHi ta tb x := Nat.gcd_dvd_right _ _
 have d2 : fG ta tb x ∣ fLo ta tb x := Nat.gcd_dvd_left _ _
 have e1 : fU ta tb x * fG ta tb x = fHi ta tb x := div_same d1
 have e2 : fV ta tb x * fG ta tb x = fLo ta tb x := div_same d2
 have e : fHi ta tb x * fV ta tb x = fU ta tb x * fLo ta tb x := by rw [← e1, ← e2, Nat.mul_assoc, Nat.mul_comm (fG ta tb x)]
 refine ⟨Nat.le_of_eq e, Nat.le_of_eq e.symm, ?_⟩
 unfold fU fV
 rw [Nat.gcd_comm]
 exact Nat.coprime_div_gcd_div_gcd (m := fLo ta tb x) (n := fHi ta tb x) hg
theorem fStep_mx {ta tb : Nat} (ha : 1 ≤ ta) (ha' : ta ≤ 1073741824) (hb : 1 ≤ tb) (hb' : tb ≤ 1073741824) {x : Int × Int} (h : pOk x) (h0 : pNo x) {s : Nat × Nat} {F : List (Nat × Nat)} (hm : Mx s F) (hc : Nat.gcd s.1 s.2 = 1) :
  Mx (fStep ta tb s x) (F ++ [hl ta tb x]) ∧ Nat.gcd (fStep ta tb s x).1 (fStep ta tb s x).2 = 1 := by
 obtain ⟨b1, b2, b3, b4, b5, c1, c2, c3, c4⟩ := f_bd ha ha' hb hb' h h0
 obtain ⟨e1, e2, e3⟩ := UV_eq b4
 have hp : pos2 (hl ta tb x) := ⟨Nat.le_trans b1 b2, b1⟩
 have hq : pos2 (fU ta tb x, fV ta tb x) := ⟨c1, c3⟩
 unfold fStep
 by_cases c : fB ta tb s x = true
 ·
  rw [if_pos c]
  have c' : s.1 * fV ta tb x < fU ta tb x * s.2 := of_decide_eq_true c
  exact ⟨hm.take hq (le2_trans (g := (fU ta tb x, fV ta tb x)) hq.2 (Nat.le_of_lt c') e2) e1 e2 hp, e3⟩
 ·
  rw [if_neg c]
  have c' : ¬ s.1 * fV ta tb x < fU ta tb x * s.2 := fun h => c (decide_eq_true h)
  exact ⟨hm.keep (le2_trans (g := (fU ta tb x, fV ta tb x)) hq.2 e1 (Nat.le_of_not_lt c')), hc⟩
theorem fold_mx {ta tb : Nat} (ha : 1 ≤ ta) (ha' : ta ≤ 1073741824) (hb : 1 ≤ tb) (hb' : tb ≤ 1073741824) : ∀ (L : List (Int × Int)) (s : Nat × Nat) (F : List (Nat × Nat)), (∀ x ∈ L, pOk x ∧ pNo x) → Mx s F → Nat.gcd s.1 s.2 = 1 →
  Mx (L.foldl (fStep ta tb) s) (F ++ L.map (hl ta tb)) ∧ Nat.gcd (L.foldl (fStep ta tb) s).1 (L.foldl (fStep ta tb) s).2 = 1
 | [], s, F, _, h, hc => by rw [List.map_nil, List.append_nil]; exact ⟨h, hc⟩
 | x :: L, s, F, h0, h, hc => by
  obtain ⟨h1, h2⟩ := fStep_mx ha ha' hb hb' (h0 x (by simp)).1 (h0 x (by simp)).2 h hc
  have := fold_mx ha ha' hb hb' L _ _ (fun y hy => h0 y (by simp [hy])) h1 h2
  rw [List.foldl_cons, List.map_cons]
  rw [List.append_assoc] at this
  exact this
theorem fFold_mx {ta tb : Nat} (ha : 1 ≤ ta) (ha' : ta ≤ 1073741824) (hb : 1 ≤ tb) (hb' : tb ≤ 1073741824) {L : List (Int × Int)} (h0 : ∀ x ∈ L, pOk x ∧ pNo x) : Mx (fFold ta tb L) (L.map (hl ta tb)) ∧ Nat.gcd (fFold ta tb L).1 (fFold ta tb L).2 = 1 := by
 have := fold_mx ha ha' hb hb' L (1, 1) [] h0 Mx.start rfl
 rw [List.nil_append] at this
 exact this
def two (ta tb : Nat) (x : Int × Int) : List (Nat × Nat) := [uv ta tb x, (uv ta tb x).swap]
theorem uv_bd {ta tb : Nat} (ha : 1 ≤ ta) (ha' : ta ≤ 1073741824) (hb : 1 ≤ tb) (hb' : tb ≤ 1073741824) {x : Int × Int} (h : pOk x) (h0 : pNo x) : sOk (uv ta tb x) := by
 obtain ⟨h1, h2, h3, h4⟩ := h
 obtain ⟨n1, n2⟩ := h0
 have m1 := p_mul (a := x.1.toNat) (t := tb) (by omega) (by omega) hb hb'
 have m2 := p_mul (a := x.2.toNat) (t := ta) (by omega) (by omega) ha ha'
 exact ⟨m1.1, m1.2, m2.1, m2.2⟩
theorem hl_uv (ta tb : Nat) (x : Int × Int) : hl ta tb x = uv ta tb x ∨ hl ta tb x = (uv ta tb x).swap := by
 unfold hl uv fHi fLo
 rcases Nat.le_total (x.1.toNat * tb) (x.2.toNat * ta) with c | c
 ·
  right; rw [Nat.max_eq_right c, Nat.min_eq_left c]; rfl
 ·
  left; rw [Nat.max_eq_left c, Nat.min_eq_right c]
theorem uv_hl (ta tb : Nat) (x : Int × Int) : le2 (uv ta tb x) (hl ta tb x) ∧ le2 (uv ta tb x).swap (hl ta tb x) := by
 unfold le2 hl uv fHi fLo Prod.swap
 dsimp only
 generalize x.1.toNat * tb = u
 generalize x.2.toNat * ta = v
 rcases Nat.le_total u v with c | c
 ·
  rw [Nat.max_eq_right c, Nat.min_eq_left c]
  exact ⟨Nat.mul_le_mul c c, Nat.le_refl _⟩
 ·
  rw [Nat.max_eq_left c, Nat.min_eq_right c]
  exact ⟨Nat.le_refl _, Nat.mul_le_mul c c⟩
end Go.Proofs.Ytjbgnlhgjgnclaa.DistPure
end
section
namespace Go.Proofs.Ytjbgnlhgjgnclaa.DistPure
open Go.RowKit Go.Proofs.Ytjbgnlhgjgnclaa.PB Go.Proofs.YtjbgnlhgjgnclaaW.PrintWords Go.Proofs.YtjbgnlhgjgnclaaW.PrintLast Go.Proofs.YtjbgnlhgjgnclaaW.PrintMore Go.Proofs.YtjbgnlhgjgnclaaW.EvKit
set_option linter.unusedVariables false
set_option linter.unusedSimpArgs false
end Go.Proofs.Ytjbgnlhgjgnclaa.DistPure
end
section
namespace Go.Proofs.Ytjbgnlhgjgnclaa.PB
open Go.RowKit Go.Proofs.YtjbgnlhgjgnclaaW.PrintWords Go.Proofs.YtjbgnlhgjgnclaaW.PrintLast Go.Proofs.YtjbgnlhgjgnclaaW.PrintMore
open Go.Proofs.YtjbgnlhgjgnclaaW.EvKit
set_option linter.unusedVariables false
noncomputable def dist_Far.F (l0 : List S64) (l1 : List S64) : Option (Int × Int × Int) := lim (fun k => dist_Far.f k l0 l1)
theorem dist_Far.F_is (l0 : List S64) (l1 : List S64) : LimIs (fun k => dist_Far.f k l0 l1) (dist_Far.F l0 l1) := ⟨fun k => dist_Far.mono l0 l1 k, rfl⟩
set_option maxRecDepth 100000 in
theorem dist_Far.F_eq (l0 : List S64) (l1 : List S64) : dist_Far.F l0 l1 = (dist_wrongs.F [l0, l1]).bind fun e => if e = 0 then ((dist_total.F l0).bind fun ta => (dist_total.F l1).bind fun tb => if dGuard l0 l1 ta tb = true then some (farVal ta tb (pairsL l0 l1)) else none) else some (0, 0, e) := by
 refine LimIs.out (?_ : LimIs (fun k => (dist_wrongs.f k [l0, l1]).bind fun e => if e = 0 then ((dist_total.f k l0).bind fun ta => (dist_total.f k l1).bind fun tb => if dGuard l0 l1 ta tb = true then some (farVal ta tb (pairsL l0 l1)) else none) else some (0, 0, e)) _)
 repeat' first
  | (with_reducible exact dist_wrongs.F_is _)
  | (with_reducible exact dist_total.F_is _)
  | (with_reducible exact LimIs.const _)
  | (with_reducible refine LimIs.ite ?_ ?_)
  | (with_reducible refine LimIs.bind ?_ (fun _ => ?_))
  | exact dist_wrongs.F_is _
  | exact dist_total.F_is _
  | exact LimIs.const _
  | refine LimIs.ite ?_ ?_
  | refine LimIs.bind ?_ (fun _ => ?_)
end Go.Proofs.Ytjbgnlhgjgnclaa.PB
end
section
namespace Go.Proofs.Ytjbgnlhgjgnclaa.DistPure
set_option linter.unusedVariables false
set_option linter.unusedSimpArgs false
open Go.RowKit Go.Proofs.Ytjbgnlhgjgnclaa.PB Go.Proofs.YtjbgnlhgjgnclaaW.PrintWords Go.Proofs.YtjbgnlhgjgnclaaW.PrintLast Go.Proofs.YtjbgnlhgjgnclaaW.PrintMore Go.Proofs.YtjbgnlhgjgnclaaW.EvKit
structure RD (d : List S64) : Prop where
 bd : Bd d
 wr : wrongP d = 0
theorem RD.right {d : List S64} (h : RD d) : Right d := right_of h.wr
theorem RD.pw {d : List S64} (h : RD d) : ∀ p ∈ d, 0 < p.f1 := (right_more h.wr).1
theorem RD.nn {d : List S64} (h : RD d) : ∀ p ∈ d, 0 ≤ p.f1 := fun p hp => Int.le_of_lt (h.pw p hp)
theorem RD.tD {d : List S64} (h : RD d) : dist_total.F d = some (totOf d) := totF d h.bd.len h.nn (by have := h.right.few; omega)
theorem RD.wbd {d : List S64} (h : RD d) (o : List Int) : 0 ≤ wOf d o ∧ wOf d o ≤ 1073741824 := by
 have := wOf_le h.nn o
 have := h.right.few
 omega
structure Two (a b : List S64) : Prop where
 a : RD a
 b : RD b
theorem Two.ok {a b : List S64} (h : Two a b) (o : List Int) : pOk (pw a b o) := by
 have h1 := h.a.wbd o
 have h2 := h.b.wbd o
 exact ⟨h1.1, h1.2, h2.1, h2.2⟩
theorem Two.t {a b : List S64} (h : Two a b) : ∃ ta tb : Nat, totOf a = (ta : Int) ∧ totOf b = (tb : Int) ∧ 1 ≤ ta ∧ ta ≤ 1073741824 ∧ 1 ≤ tb ∧ tb ≤ 1073741824 := by
 have h1 := h.a.right
 have h2 := h.b.right
 refine ⟨(totOf a).toNat, (totOf b).toNat, ?_⟩
 have := h1.pos; have := h1.few; have := h2.pos; have := h2.few
 omega
theorem Two.perm {a b : List S64} (h : Two a b) : (pairsL a b).Perm ((outsL a b).map (pw a b)) := pairs_perm' h.a.right.st h.b.right.st h.a.pw
theorem Two.pok {a b : List S64} (h : Two a b) : ∀ x ∈ pairsL a b, pOk x := fun x hx => by
 obtain ⟨o, _, rfl⟩ := List.mem_map.1 (h.perm.mem_iff.1 hx)
 exact h.ok o
def farP (a b : List S64) : Int × Int × Int := if wrongP a = 0 then (if wrongP b = 0 then farVal (totOf a) (totOf b) (pairsL a b) else (0, 0, wrongP b)) else (0, 0, wrongP a)
def wrongs2 (a b : List S64) : Int := if wrongP a = 0 then wrongP b else wrongP a
theorem wrongsF (a b : List S64) (ha : Bd a) (hb : Bd b) : dist_wrongs.F [a, b] = some (wrongs2 a b) := by
 unfold wrongs2
 rw [dist_wrongs.F_eq]
 have e0 : rd_L3 [a, b] 0 = a := rfl
 have e1 : rd_L3 [a, b] 1 = b := rfl
 have l2 : (([a, b].length : Nat) : Int) = 2 := rfl
 have x1 : wrap64 ((0 : Int) + 1) = 1 := by decide +kernel
 have x2 : wrap64 ((1 : Int) + 1) = 2 := by decide +kernel
 rw [l2, dist_wrongs.L0_eq, l2, if_pos (by decide), if_pos (by decide), if_pos (by decide), e0, wrongF a ha, Option.bind_some, x1]
 by_cases c : wrongP a = 0
 ·
  rw [if_pos c, if_pos c, dist_wrongs.L0_eq, l2, if_pos (by decide), if_pos (by decide), if_pos (by decide), e1, wrongF b hb, Option.bind_some, x2]
  by_cases c2 : wrongP b = 0
  ·
   rw [if_pos c2, dist_wrongs.L0_eq, if_neg (by decide), c2]
  ·
   rw [if_neg c2]
 ·
  rw [if_neg c, if_neg c]
theorem dSizeB {a : List S64} (h : Bd a) : dSize a = true := by
 have h1 := h.len
 unfold dSize
 rw [Bool.and_eq_true, decide_eq_true_eq, List.all_eq_true]
 exact ⟨by omega, fun p hp => by have := h.out p hp; exact decide_eq_true (by omega)⟩
theorem tIn_of {t : Int} (h : 1 ≤ t) (h2 : t ≤ 1073741824) : tIn t = true := by unfold tIn; simp [h, h2]
theorem xIn_of {x : Int × Int} (h : pOk x) : xIn x = true := by obtain ⟨h1, h2, h3, h4⟩ := h; unfold xIn; simp [h1, h2, h3, h4]
theorem farF (a b : List S64) (ha : Bd a) (hb : Bd b) : dist_Far.F a b = some (farP a b) := by
 rw [dist_Far.F_eq, wrongsF a b ha hb, Option.bind_some]
 unfold wrongs2 farP
 by_cases c : wrongP a = 0
 ·
  rw [if_pos c, if_pos c]
  by_cases c2 : wrongP b = 0
  ·
   have h : Two a b := ⟨⟨ha, c⟩, ⟨hb, c2⟩⟩
   have h1 := h.a.right
   have h2 := h.b.right
   have := h1.pos; have := h1.few; have := h2.pos; have := h2.few
   rw [if_pos c2, if_pos c2, h.a.tD, Option.bind_some, h.b.tD, Option.bind_some]
   rw [if_pos (by
    unfold dGuard
    rw [dSizeB ha, dSizeB hb, tIn_of (by omega) (by omega), tIn_of (by omega) (by omega)]
    simpa using fun x y hx => xIn_of (h.pok (x, y) hx))]
  ·
   rw [if_neg c2, if_neg c2]
 ·
  rw [if_neg c, if_neg c, if_neg c]
end Go.Proofs.Ytjbgnlhgjgnclaa.DistPure
end
section
namespace Go.Proofs.Ytjbgnlhgjgnclaa.DistPure
set_option linter.unusedVariables false
set_option linter.unusedSimpArgs false
open Go.RowKit Go.Proofs.Ytjbgnlhgjgnclaa.PB Go.Proofs.YtjbgnlhgjgnclaaW.PrintWords Go.Proofs.YtjbgnlhgjgnclaaW.PrintLast Go.Proofs.YtjbgnlhgjgnclaaW.PrintMore Go.Proofs.YtjbgnlhgjgnclaaW.EvKit
structure FarOK (a b : List S64) (ta tb : Nat) (s : Nat × Nat) : Prop where
 two : Two a b
 ea : totOf a = (ta : Int)
 eb : totOf b = (tb : Int)
 a1 : 1 ≤ ta
 b1 : 1 ≤ tb
 a2 : ta ≤ 1073741824
 b2 : tb ≤ 1073741824
 no : ∀ x ∈ pairsL a b, pNo x
 eq : fFold ta tb (pairsL a b) = s
 mx : Mx s ((pairsL a b).map (hl ta tb))
 co : Nat.gcd s.1 s.2 = 1
theorem far_mk {a b : List S64} (ha : Bd a) (hb : Bd b) (c : wrongP a = 0) (c2 : wrongP b = 0) (hn : ∀ x ∈ pairsL a b, pNo x) : ∃ ta tb s, FarOK a b ta tb s ∧ farP a b = farOut s := by
 have h : Two a b := ⟨⟨ha, c⟩, ⟨hb, c2⟩⟩
 obtain ⟨ta, tb, ea, eb, a1, a2, b1, b2⟩ := h.t
 obtain ⟨m, co⟩ := fFold_mx a1 a2 b1 b2 (L := pairsL a b) (fun x hx => ⟨h.pok x hx, hn x hx⟩)
 refine ⟨ta, tb, _, ⟨h, ea, eb, a1, b1, a2, b2, hn, rfl, m, co⟩, ?_⟩
 unfold farP
 rw [if_pos c, if_pos c2, farVal_yes hn, ea, eb]
 rfl
theorem in_outs {a b : List S64} (o : List Int) (h : 0 < wOf a o ∨ 0 < wOf b o) : o ∈ outsL a b := by
 unfold outsL
 by_cases c : 0 < wOf a o
 ·
  obtain ⟨q, hq, e⟩ := wOf_mem c
  exact List.mem_append.2 (.inl (List.mem_map.2 ⟨q, hq, e⟩))
 ·
  have hb := h.resolve_left c
  obtain ⟨q, hq, e⟩ := wOf_mem hb
  by_cases c2 : wOf a o = 0
  ·
   exact List.mem_append.2 (.inr (List.mem_map.2 ⟨q, List.mem_filter.2 ⟨hq, by rw [e]; exact decide_eq_true c2⟩, e⟩))
  ·
   obtain ⟨p, hp, e2⟩ : ∃ p ∈ a, p.f0 = o := by
    refine Classical.byContradiction (fun hx => c2 (wOf_none a o (fun q hq e => hx ⟨q, hq, e⟩)))
   exact List.mem_append.2 (.inl (List.mem_map.2 ⟨p, hp, e2⟩))
theorem FarOK.at {a b : List S64} {ta tb : Nat} {s : Nat × Nat} (h : FarOK a b ta tb s) (o : List Int) (ho : 0 < wOf a o ∨ 0 < wOf b o) :
  0 < wOf a o ∧ 0 < wOf b o ∧ le2 (uv ta tb (pw a b o)) s ∧ le2 (uv ta tb (pw a b o)).swap s ∧ pos2 (uv ta tb (pw a b o)) := by
 have hm : pw a b o ∈ pairsL a b := h.two.perm.mem_iff.2 (List.mem_map.2 ⟨o, in_outs o ho, rfl⟩)
 have hn := h.no _ hm
 have hk := h.two.ok o
 have hu := uv_bd h.a1 h.a2 h.b1 h.b2 hk hn
 have hp : pos2 (uv ta tb (pw a b o)) := ⟨hu.1, hu.2.2.1⟩
 have hh : 1 ≤ (hl ta tb (pw a b o)).2 := by
  rcases hl_uv ta tb (pw a b o) with e | e
  ·
   rw [e]; exact hp.2
  ·
   rw [e]; exact hp.1
 have hub := h.mx.ub _ (List.mem_map.2 ⟨_, hm, rfl⟩)
 have h1 := h.two.a.wbd o
 have h2 := h.two.b.wbd o
 have n1 : ¬ wOf a o = 0 := hn.1
 have n2 : ¬ wOf b o = 0 := hn.2
 exact ⟨by omega, by omega, le2_trans hh (uv_hl ta tb _).1 hub, le2_trans hh (uv_hl ta tb _).2 hub, hp⟩
theorem FarOK.some {a b : List S64} {ta tb : Nat} {s : Nat × Nat} (h : FarOK a b ta tb s) : le2 s (1, 1) ∨ ∃ o, 0 < wOf a o ∧ 0 < wOf b o ∧ (le2 s (uv ta tb (pw a b o)) ∨ le2 s (uv ta tb (pw a b o)).swap) := by
 rcases h.mx.got with c | ⟨f, hf, c⟩
 ·
  exact .inl c
 ·
  obtain ⟨x, hx, rfl⟩ := List.mem_map.1 hf
  obtain ⟨o, ho, rfl⟩ := List.mem_map.1 (h.two.perm.mem_iff.1 hx)
  have hn := h.no _ hx
  have h1 := h.two.a.wbd o
  have h2 := h.two.b.wbd o
  have n1 : ¬ wOf a o = 0 := hn.1
  have n2 : ¬ wOf b o = 0 := hn.2
  refine .inr ⟨o, by omega, by omega, ?_⟩
  rcases hl_uv ta tb (pw a b o) with e | e
  ·
   rw [e] at c; exact .inl c
  ·
   rw [e] at c; exact .inr c
end Go.Proofs.Ytjbgnlhgjgnclaa.DistPure
end
section
namespace Go.Proofs.Ytjbgnlhgjgnclaa.DistPure
set_option linter.unusedVariables false
set_option linter.unusedSimpArgs false
open Go.RowKit Go.Proofs.Ytjbgnlhgjgnclaa.PB Go.Proofs.YtjbgnlhgjgnclaaW.PrintWords Go.Proofs.YtjbgnlhgjgnclaaW.PrintLast Go.Proofs.YtjbgnlhgjgnclaaW.PrintMore Go.Proofs.YtjbgnlhgjgnclaaW.EvKit
theorem canon_self {l : List S64} (hs : Strict l) (hp : ∀ p ∈ l, 0 < p.f1) : tMerge (sortP l) = l :=
 (tidy_canon (fun p h => Int.le_of_lt (hp p h))).uniq (⟨hs, hp, fun _ => rfl⟩ : Canon l l) (fun _ => rfl)
def divG (l : List S64) : List S64 := l.map (fun p => (⟨p.f0, p.f1 / (gOf l : Int)⟩ : S64))
structure Ord (l : List S64) : Prop where
 st : Strict l
 pos : ∀ p ∈ l, 0 < p.f1
 ok : l.all okP = true
 ne : l ≠ []
 few : totOf l ≤ 1073741824
 much : l.length ≤ 4096
theorem Ord.make {l : List S64} (h : Ord l) : makeP l = (divG l, 0) := by
 have hg := gOf_pos h.pos h.ne
 have h0 : 0 ≤ totOf l := by
  cases hl : l with
  | nil => exact absurd hl h.ne
  | cons q D =>
   have h1 := one_le (l := l) (fun p hp => Int.le_of_lt (h.pos p hp)) (p := q) (by rw [hl]; simp)
   have h2 := h.pos q (by rw [hl]; simp)
   rw [← hl]; omega
 have h1 : totOf l / (gOf l : Int) ≤ totOf l := Int.ediv_le_self _ h0
 have h2 := h.few
 have h3 := h.much
 unfold makeP
 rw [if_pos h.ok, canon_self h.st h.pos]
 unfold tDone
 rw [if_neg h.ne, if_neg (by omega)]
 rfl
theorem Ord.mem {l : List S64} (h : Ord l) {q : S64} (hq : q ∈ divG l) : ∃ p ∈ l, ∃ m : Nat, 0 < m ∧ q = ⟨p.f0, (m : Int)⟩ ∧ p.f1 = ((gOf l * m : Nat) : Int) := by
 obtain ⟨p, hp, rfl⟩ := List.mem_map.1 hq
 obtain ⟨m, h1, h2, h3⟩ := div_pos' (h.pos p hp) (gOf_pos h.pos h.ne) (gOf_dvd hp)
 have h4 := h.pos p hp
 exact ⟨p, hp, m, h1, by rw [h2], by omega⟩
theorem wOf_map (g : Nat) (hg : 0 < g) (o : List Int) : ∀ (L : List S64), (∀ p ∈ L, 0 < p.f1 ∧ g ∣ p.f1.toNat) → wOf (L.map (fun p => (⟨p.f0, p.f1 / (g : Int)⟩ : S64))) o * (g : Int) = wOf L o
 | [], _ => by simp [wOf, isum]
 | p :: L, h => by
  have ih := wOf_map g hg o L (fun q hq => h q (by simp [hq]))
  obtain ⟨h1, h2⟩ := h p (by simp)
  obtain ⟨m, _, e, e'⟩ := div_pos' h1 hg h2
  have e2 : p.f1 / (g : Int) * (g : Int) = p.f1 := by
   rw [e, ← Int.natCast_mul, Nat.mul_comm]; omega
  rw [List.map_cons, wOf_cons, wOf_cons, Int.add_mul, ih]
  by_cases c : p.f0 = o
  ·
   rw [if_pos c, if_pos c, e2]
  ·
   rw [if_neg c, if_neg c, Int.zero_mul]
theorem tot_map (g : Nat) (hg : 0 < g) : ∀ (L : List S64), (∀ p ∈ L, 0 < p.f1 ∧ g ∣ p.f1.toNat) → totOf (L.map (fun p => (⟨p.f0, p.f1 / (g : Int)⟩ : S64))) * (g : Int) = totOf L
 | [], _ => by rw [List.map_nil, totOf_nil, Int.zero_mul]
 | p :: L, h => by
  have ih := tot_map g hg L (fun q hq => h q (by simp [hq]))
  obtain ⟨h1, h2⟩ := h p (by simp)
  obtain ⟨m, _, e, e'⟩ := div_pos' h1 hg h2
  have e2 : p.f1 / (g : Int) * (g : Int) = p.f1 := by
   rw [e, ← Int.natCast_mul, Nat.mul_comm]; omega
  rw [List.map_cons, totOf_cons, totOf_cons, Int.add_mul, ih]
  show p.f1 / (g : Int) * (g : Int) + _ = _
  rw [e2]
theorem Ord.all {l : List S64} (h : Ord l) : ∀ p ∈ l, 0 < p.f1 ∧ gOf l ∣ p.f1.toNat := fun p hp => ⟨h.pos p hp, gOf_dvd hp⟩
theorem Ord.w {l : List S64} (h : Ord l) (o : List Int) : wOf (divG l) o * (gOf l : Int) = wOf l o := wOf_map (gOf l) (gOf_pos h.pos h.ne) o l h.all
theorem Ord.t {l : List S64} (h : Ord l) : totOf (divG l) * (gOf l : Int) = totOf l := tot_map (gOf l) (gOf_pos h.pos h.ne) l h.all
theorem Ord.g1 {l : List S64} (h : Ord l) : gOf (divG l) = 1 := by
 have hg := gOf_pos h.pos h.ne
 have h1 : gOf l * gOf (divG l) ∣ gOf l := gOf_max (fun q hq => by
  obtain ⟨m, _, h2, h3⟩ := div_pos' (h.pos q hq) hg (gOf_dvd hq)
  have h4 := gOf_dvd (List.mem_map.2 ⟨q, hq, rfl⟩ : (⟨q.f0, q.f1 / (gOf l : Int)⟩ : S64) ∈ divG l)
  rw [h3]
  refine Nat.mul_dvd_mul_left _ ?_
  have h5 : (q.f1 / (gOf l : Int)).toNat = m := by rw [h2]; omega
  rw [← h5]
  exact h4)
 have h2 := Nat.le_of_dvd hg h1
 have h3 : 0 < gOf (divG l) := by
  refine gOf_pos (fun p hp => ?_) (by unfold divG; simpa using h.ne)
  obtain ⟨_, _, m, h1, rfl, _⟩ := h.mem hp
  show (0 : Int) < m
  omega
 generalize gOf (divG l) = x at *
 rcases Nat.lt_or_ge 1 x with c | c
 ·
  have := Nat.mul_lt_mul_of_pos_left c hg
  omega
 ·
  omega
theorem Ord.div {l : List S64} (h : Ord l) : Ord (divG l) := by
 have hg := gOf_pos h.pos h.ne
 refine ⟨?_, ?_, ?_, by unfold divG; simpa using h.ne, ?_, by unfold divG; rw [List.length_map]; exact h.much⟩
 ·
  unfold Strict divG
  rw [List.pairwise_map]
  exact h.st
 ·
  intro p hp
  obtain ⟨_, _, m, h1, rfl, _⟩ := h.mem hp
  show (0 : Int) < m
  omega
 ·
  rw [List.all_eq_true]
  intro q hq
  obtain ⟨p, hp, m, h1, rfl, e⟩ := h.mem hq
  obtain ⟨k1, k2, k3⟩ := okP_iff.1 (List.all_eq_true.1 h.ok p hp)
  have : m ≤ gOf l * m := Nat.le_mul_of_pos_left m hg
  refine okP_iff.2 ⟨k1, ?_, ?_⟩
  ·
   show (0 : Int) ≤ m
   omega
  ·
   show (m : Int) ≤ 1073741824
   omega
 ·
  have := div_sum (gOf l : Int) (by omega) l
  have h2 := h.few
  have h1 : totOf l / (gOf l : Int) ≤ totOf l := by
   refine Int.ediv_le_self _ ?_
   cases hl : l with
   | nil => exact absurd hl h.ne
   | cons q D =>
    have h1 := one_le (l := l) (fun p hp => Int.le_of_lt (h.pos p hp)) (p := q) (by rw [hl]; simp)
    have h2 := h.pos q (by rw [hl]; simp)
    rw [← hl]; omega
  unfold divG
  omega
theorem Ord.wrong {l : List S64} (h : Ord l) : wrongP (divG l) = 0 := by
 have e : divG (divG l) = divG l := by
  have h1 := h.g1
  have e2 : divG (divG l) = (divG l).map (fun p => (⟨p.f0, p.f1 / (gOf (divG l) : Int)⟩ : S64)) := rfl
  rw [e2, h1]
  have e3 : ∀ L : List S64, L.map (fun p => (⟨p.f0, p.f1 / ((1 : Nat) : Int)⟩ : S64)) = L := fun L => by
   induction L with
   | nil => rfl
   | cons p L ih =>
    rw [List.map_cons, ih]
    congr 1
    have : p.f1 / ((1 : Nat) : Int) = p.f1 := by rw [Int.natCast_one, Int.ediv_one]
    rw [this]
  exact e3 _
 unfold wrongP
 rw [h.div.make, e]
 simp
theorem Ord.bd {l : List S64} (h : Ord l) (hb : Bd l) : Bd (divG l) := by
 have := makeP_bd hb
 rw [h.make] at this
 exact this
theorem low_eq {p q x y : Nat} (hx : 1 ≤ x) (hq : 1 ≤ q) (h1 : Nat.gcd p q = 1) (h2 : Nat.gcd x y = 1) (e : x * q = p * y) : x = p ∧ y = q := by
 have a1 : x ∣ p := (Nat.Coprime.dvd_of_dvd_mul_right (show Nat.Coprime x y from h2) ⟨q, e.symm⟩)
 have a2 : p ∣ x := (Nat.Coprime.dvd_of_dvd_mul_right (show Nat.Coprime p q from h1) ⟨y, e⟩)
 have e1 := Nat.dvd_antisymm a1 a2
 subst e1
 exact ⟨rfl, (Nat.eq_of_mul_eq_mul_left hx e).symm⟩
theorem far_val {a b : List S64} (ha : Bd a) (hb : Bd b) (wa : wrongP a = 0) (wb : wrongP b = 0) {p q ga gb T : Nat} (hp : p ≤ 1073741824) (hq : q ≤ p) (hq1 : 1 ≤ q) (hco : Nat.gcd p q = 1)
  (hga : 0 < ga) (hgb : 0 < gb) (hT : 0 < T) {A B : List Int → Nat} (eA : ∀ o, wOf a o * (ga : Int) = (A o : Int)) (eB : ∀ o, wOf b o * (gb : Int) = (B o : Int)) (tA : totOf a * (ga : Int) = (T : Int)) (tB : totOf b * (gb : Int) = (T : Int))
  (pos : ∀ o, 0 < A o ↔ 0 < B o) (up : ∀ o, A o * q ≤ B o * p ∧ B o * q ≤ A o * p) (hit : ∃ o, 0 < A o ∧ (A o * q = B o * p ∨ B o * q = A o * p)) :
  farP a b = ((p : Int), (q : Int), 0) := by
 have hT2 : Two a b := ⟨⟨ha, wa⟩, ⟨hb, wb⟩⟩
 have pA : ∀ o, 0 < wOf a o ↔ 0 < A o := fun o => by
  have h1 := (hT2.a.wbd o).1
  have e := eA o
  constructor
  ·
   intro h
   have := Int.mul_pos h (show (0 : Int) < ga by omega)
   omega
  ·
   intro h
   rcases Int.lt_or_eq_of_le h1 with c | c
   ·
    exact c
   ·
    rw [← c, Int.zero_mul] at e; omega
 have pB : ∀ o, 0 < wOf b o ↔ 0 < B o := fun o => by
  have h1 := (hT2.b.wbd o).1
  have e := eB o
  constructor
  ·
   intro h
   have := Int.mul_pos h (show (0 : Int) < gb by omega)
   omega
  ·
   intro h
   rcases Int.lt_or_eq_of_le h1 with c | c
   ·
    exact c
   ·
    rw [← c, Int.zero_mul] at e; omega
 have hn : ∀ x ∈ pairsL a b, pNo x := fun x hx => by
  obtain ⟨o, ho, rfl⟩ := List.mem_map.1 (hT2.perm.mem_iff.1 hx)
  have hpos : 0 < wOf a o ∨ 0 < wOf b o := by
   rcases outs_mem ho with ⟨r, hr, e⟩ | ⟨r, hr, e⟩
   ·
    have := wOf_ge hT2.a.nn hr; have := hT2.a.pw r hr; rw [e] at *; exact .inl (by omega)
   ·
    have := wOf_ge hT2.b.nn hr; have := hT2.b.pw r hr; rw [e] at *; exact .inr (by omega)
  have h1 : 0 < wOf a o := by
   rcases hpos with h | h
   ·
    exact h
   ·
    exact (pA o).2 ((pos o).2 ((pB o).1 h))
  have h2 : 0 < wOf b o := (pB o).2 ((pos o).1 ((pA o).1 h1))
  exact ⟨fun e => by have e : wOf a o = 0 := e; omega, fun e => by have e : wOf b o = 0 := e; omega⟩
 obtain ⟨ta, tb, s, H, e⟩ := far_mk ha hb wa wb hn
 have uvA : ∀ o, (uv ta tb (pw a b o)).1 * (ga * gb) = A o * T ∧ (uv ta tb (pw a b o)).2 * (ga * gb) = B o * T := fun o => by
  have e1 := H.ea
  have e2 := H.eb
  have n1 := (hT2.a.wbd o).1
  have n2 := (hT2.b.wbd o).1
  have k1 : (wOf a o).toNat * ga = A o := by
   have := eA o
   have e3 : wOf a o = ((wOf a o).toNat : Int) := (Int.toNat_of_nonneg n1).symm
   rw [e3, ← Int.natCast_mul] at this
   exact Int.ofNat_inj.1 this
  have k2 : (wOf b o).toNat * gb = B o := by
   have := eB o
   have e3 : wOf b o = ((wOf b o).toNat : Int) := (Int.toNat_of_nonneg n2).symm
   rw [e3, ← Int.natCast_mul] at this
   exact Int.ofNat_inj.1 this
  have k3 : ta * ga = T := by rw [e1, ← Int.natCast_mul] at tA; exact Int.ofNat_inj.1 tA
  have k4 : tb * gb = T := by rw [e2, ← Int.natCast_mul] at tB; exact Int.ofNat_inj.1 tB
  constructor
  ·
   show (wOf a o).toNat * tb * (ga * gb) = _
   rw [← k1, ← k4]; ac_rfl
  ·
   show (wOf b o).toNat * ta * (ga * gb) = _
   rw [← k2, ← k3]; ac_rfl
 have hG : 0 < ga * gb := Nat.mul_pos hga hgb
 have up1 : ∀ o, le2 (uv ta tb (pw a b o)) (p, q) := fun o => by
  obtain ⟨h1, h2⟩ := uvA o
  have h3 := Nat.mul_le_mul_right T (up o).1
  unfold le2
  dsimp only
  refine Nat.le_of_mul_le_mul_right (c := ga * gb) ?_ hG
  have e1 : (uv ta tb (pw a b o)).1 * q * (ga * gb) = A o * q * T := by rw [Nat.mul_right_comm, h1]; ac_rfl
  have e2 : p * (uv ta tb (pw a b o)).2 * (ga * gb) = B o * p * T := by rw [Nat.mul_assoc, h2]; ac_rfl
  rw [e1, e2]; exact h3
 have up2 : ∀ o, le2 (uv ta tb (pw a b o)).swap (p, q) := fun o => by
  obtain ⟨h1, h2⟩ := uvA o
  have h3 := Nat.mul_le_mul_right T (up o).2
  unfold le2 Prod.swap
  dsimp only
  refine Nat.le_of_mul_le_mul_right (c := ga * gb) ?_ hG
  have e1 : (uv ta tb (pw a b o)).2 * q * (ga * gb) = B o * q * T := by rw [Nat.mul_right_comm, h2]; ac_rfl
  have e2 : p * (uv ta tb (pw a b o)).1 * (ga * gb) = A o * p * T := by rw [Nat.mul_assoc, h1]; ac_rfl
  rw [e1, e2]; exact h3
 have s1 : le2 s (p, q) := by
  rcases H.some with c | ⟨o, h1, h2, c⟩
  ·
   refine le2_trans (g := (1, 1)) (Nat.le_refl 1) c ?_
   unfold le2; dsimp only; omega
  ·
   have h5 := (H.at o (.inl h1)).2.2.2.2
   rcases c with c | c
   ·
    exact le2_trans h5.2 c (up1 o)
   ·
    exact le2_trans h5.1 c (up2 o)
 have s2 : le2 (p, q) s := by
  obtain ⟨o, ho, c⟩ := hit
  obtain ⟨_, _, l1, l2, h5⟩ := H.at o (.inl ((pA o).2 ho))
  obtain ⟨h1, h2⟩ := uvA o
  rcases c with c | c
  ·
   refine le2_trans h5.2 ?_ l1
   unfold le2
   dsimp only
   refine Nat.le_of_mul_le_mul_right (c := ga * gb) ?_ hG
   have e1 : (uv ta tb (pw a b o)).1 * q * (ga * gb) = A o * q * T := by rw [Nat.mul_right_comm, h1]; ac_rfl
   have e2 : p * (uv ta tb (pw a b o)).2 * (ga * gb) = B o * p * T := by rw [Nat.mul_assoc, h2]; ac_rfl
   rw [e1, e2, c]
   exact Nat.le_refl _
  ·
   refine le2_trans (g := (uv ta tb (pw a b o)).swap) h5.1 ?_ l2
   unfold le2 Prod.swap
   dsimp only
   refine Nat.le_of_mul_le_mul_right (c := ga * gb) ?_ hG
   have e1 : (uv ta tb (pw a b o)).2 * q * (ga * gb) = B o * q * T := by rw [Nat.mul_right_comm, h2]; ac_rfl
   have e2 : p * (uv ta tb (pw a b o)).1 * (ga * gb) = A o * p * T := by rw [Nat.mul_assoc, h1]; ac_rfl
   rw [e1, e2, c]
   exact Nat.le_refl _
 have hs := H.mx.pos
 have hco2 := H.co
 obtain ⟨x, y⟩ := s
 unfold le2 at s1 s2
 dsimp only at s1 s2 hco2
 obtain ⟨rfl, rfl⟩ := low_eq (p := p) (q := q) hs.1 hq1 hco hco2 (Nat.le_antisymm s1 s2)
 rw [e]
 unfold farOut
 rw [if_neg (by dsimp only; omega)]
end Go.Proofs.Ytjbgnlhgjgnclaa.DistPure
end
section
namespace Go.Proofs.Ytjbgnlhgjgnclaa.DistPure
set_option linter.unusedVariables false
set_option linter.unusedSimpArgs false
open Go.RowKit Go.Proofs.Ytjbgnlhgjgnclaa.PB Go.Proofs.YtjbgnlhgjgnclaaW.PrintWords Go.Proofs.YtjbgnlhgjgnclaaW.PrintLast Go.Proofs.YtjbgnlhgjgnclaaW.PrintMore Go.Proofs.YtjbgnlhgjgnclaaW.EvKit
def numL (low : Int) (f : Nat → Nat) (n : Nat) : List S64 := (List.range n).map (fun (z : Nat) => (⟨[low + (z : Int)], ((f z : Nat) : Int)⟩ : S64))
theorem numL_succ (low : Int) (f : Nat → Nat) (n : Nat) : numL low f (n + 1) = numL low f n ++ [⟨[low + (n : Int)], ((f n : Nat) : Int)⟩] := by
 unfold numL; rw [List.range_succ, List.map_append]; rfl
theorem numL_len (low : Int) (f : Nat → Nat) (n : Nat) : (numL low f n).length = n := by unfold numL; simp
theorem numL_mem {low : Int} {f : Nat → Nat} {n : Nat} {p : S64} (h : p ∈ numL low f n) : ∃ z, z < n ∧ p = ⟨[low + (z : Int)], ((f z : Nat) : Int)⟩ := by
 obtain ⟨z, hz, rfl⟩ := List.mem_map.1 h
 exact ⟨z, List.mem_range.1 hz, rfl⟩
theorem numL_cases (low : Int) (o : List Int) : ∀ n : Nat, (∃ z, z < n ∧ o = [low + (z : Int)] ∧ ∀ f, wOf (numL low f n) o = ((f z : Nat) : Int)) ∨ ∀ f, wOf (numL low f n) o = 0
 | 0 => .inr (fun f => rfl)
 | n + 1 => by
  have key : ∀ f, wOf (numL low f (n + 1)) o = wOf (numL low f n) o + (if [low + (n : Int)] = o then ((f n : Nat) : Int) else 0) := fun f => by rw [numL_succ, wOf_app, wOf_one]
  by_cases c : [low + (n : Int)] = o
  ·
   refine .inl ⟨n, by omega, c.symm, fun f => ?_⟩
   rw [key, if_pos c]
   rcases numL_cases low o n with ⟨z, hz, e, _⟩ | h
   ·
    rw [e] at c
    have c := (List.cons.inj c).1
    omega
   ·
    rw [h]; omega
  ·
   rcases numL_cases low o n with ⟨z, hz, e, h⟩ | h
   ·
    exact .inl ⟨z, by omega, e, fun f => by rw [key, if_neg c, h]; omega⟩
   ·
    exact .inr (fun f => by rw [key, if_neg c, h]; rfl)
def sumN (f : Nat → Nat) : Nat → Nat
 | 0 => 0
 | n + 1 => sumN f n + f n
theorem numL_tot (low : Int) (f : Nat → Nat) : ∀ n, totOf (numL low f n) = ((sumN f n : Nat) : Int)
 | 0 => rfl
 | n + 1 => by
  have ih := numL_tot low f n
  rw [numL_succ]
  unfold totOf at *
  rw [List.map_append, isum_app, ih, sumN]
  simp [isum]
theorem numL_strict (low : Int) (f : Nat → Nat) (n : Nat) : Strict (numL low f n) := by
 unfold Strict numL
 rw [List.pairwise_map]
 refine List.pairwise_lt_range.imp (fun {a b} h => ?_)
 show cmpL [low + (a : Int)] [low + (b : Int)] < 0
 rw [cmpL, if_pos (by omega)]
 decide
theorem numL_ord {low : Int} {f : Nat → Nat} {n : Nat} (h0 : -1073741824 ≤ low) (h1 : low + (n : Int) ≤ 1073741825) (hn : 1 ≤ n) (hn2 : n ≤ 4096) (hf : ∀ z, z < n → 1 ≤ f z ∧ f z ≤ 1073741824) (ht : sumN f n ≤ 1073741824) : Ord (numL low f n) := by
 refine ⟨numL_strict low f n, ?_, ?_, ?_, by rw [numL_tot]; omega, by rw [numL_len]; omega⟩
 ·
  intro p hp
  obtain ⟨z, hz, rfl⟩ := numL_mem hp
  have := hf z hz
  show (0 : Int) < (f z : Int)
  omega
 ·
  rw [List.all_eq_true]
  intro p hp
  obtain ⟨z, hz, rfl⟩ := numL_mem hp
  have := hf z hz
  refine okP_iff.2 ⟨?_, ?_, ?_⟩
  ·
   unfold smallB
   simp only [okN, List.length_cons, List.length_nil, List.all_cons, List.all_nil, Bool.and_true, Bool.and_eq_true, decide_eq_true_eq]
   omega
  ·
   show (0 : Int) ≤ (f z : Int)
   omega
  ·
   show (f z : Int) ≤ 1073741824
   omega
 ·
  intro e
  have := congrArg List.length e
  rw [numL_len] at this
  simp at this
  omega
theorem numL_bd (low : Int) (f : Nat → Nat) (n : Nat) (hn : n ≤ 1048576) : Bd (numL low f n) := by
 refine ⟨by rw [numL_len]; exact hn, fun p hp => ?_⟩
 obtain ⟨z, _, rfl⟩ := numL_mem hp
 simp
theorem numL_far {low : Int} {f g : Nat → Nat} {n : Nat} (hF : Ord (numL low f n)) (hG : Ord (numL low g n)) (hn : n ≤ 1048576) (hs : sumN f n = sumN g n) (hpos : 0 < sumN f n) {p q : Nat} (hp : p ≤ 1073741824) (hq : q ≤ p) (hq1 : 1 ≤ q) (hco : Nat.gcd p q = 1)
  (up : ∀ z, z < n → f z * q ≤ g z * p ∧ g z * q ≤ f z * p) (hit : ∃ z, z < n ∧ f z * q = g z * p) (hfp : ∀ z, z < n → 1 ≤ f z ∧ 1 ≤ g z) :
  farP (divG (numL low f n)) (divG (numL low g n)) = ((p : Int), (q : Int), 0) := by
 have gF := gOf_pos hF.pos hF.ne
 have gG := gOf_pos hG.pos hG.ne
 have t1 := hF.t
 have t2 := hG.t
 rw [numL_tot] at t1 t2
 rw [← hs] at t2
 have nn : ∀ (h : Nat → Nat) o, 0 ≤ wOf (numL low h n) o := fun h o => by
  rcases numL_cases low o n with ⟨z, _, _, e⟩ | e
  ·
   rw [e]; omega
  ·
   rw [e]; exact Int.le_refl 0
 refine far_val (hF.bd (numL_bd low f n hn)) (hG.bd (numL_bd low g n hn)) hF.wrong hG.wrong (A := fun o => (wOf (numL low f n) o).toNat) (B := fun o => (wOf (numL low g n) o).toNat) hp hq hq1 hco gF gG hpos
  (fun o => by rw [hF.w, Int.toNat_of_nonneg (nn f o)]) (fun o => by rw [hG.w, Int.toNat_of_nonneg (nn g o)]) t1 t2 (fun o => ?_) (fun o => ?_) ?_
 ·
  rcases numL_cases low o n with ⟨z, hz, _, e⟩ | e
  ·
   have := hfp z hz
   try dsimp only
   rw [e, e, Int.toNat_natCast, Int.toNat_natCast]
   omega
  ·
   try dsimp only
   rw [e, e]
 ·
  rcases numL_cases low o n with ⟨z, hz, _, e⟩ | e
  ·
   try dsimp only
   rw [e, e, Int.toNat_natCast, Int.toNat_natCast]
   exact up z hz
  ·
   try dsimp only
   rw [e, e]
   simp
 ·
  obtain ⟨z, hz, c⟩ := hit
  refine ⟨[low + (z : Int)], ?_, .inl ?_⟩
  ·
   rcases numL_cases low [low + (z : Int)] n with ⟨y, hy, ey, e⟩ | e
   ·
    try dsimp only
    rw [e, Int.toNat_natCast]
    exact (hfp y hy).1
   ·
    have h1 := e (fun _ => 1)
    have h2 := wOf_ge (l := numL low (fun _ => 1) n) (p := ⟨[low + (z : Int)], 1⟩) (fun p hp => by obtain ⟨y, _, rfl⟩ := numL_mem hp; show (0 : Int) ≤ ((1 : Nat) : Int); omega) (List.mem_map.2 ⟨z, List.mem_range.2 hz, rfl⟩)
    dsimp only at h2
    omega
  ·
   rcases numL_cases low [low + (z : Int)] n with ⟨y, hy, ey, e⟩ | e
   ·
    have ey := (List.cons.inj ey).1
    obtain rfl : y = z := by omega
    try dsimp only
    rw [e, e, Int.toNat_natCast, Int.toNat_natCast]
    exact c
   ·
    try dsimp only
    rw [e, e]
    simp
end Go.Proofs.Ytjbgnlhgjgnclaa.DistPure
end
section
namespace Go.Proofs.Ytjbgnlhgjgnclaa.RatioSpec
set_option linter.unusedVariables false
open Go.RowKit Go.Proofs.Ytjbgnlhgjgnclaa.PB Go.Proofs.YtjbgnlhgjgnclaaW.PrintWords Go.Proofs.YtjbgnlhgjgnclaaW.PrintLast Go.Proofs.YtjbgnlhgjgnclaaW.PrintMore Go.Proofs.YtjbgnlhgjgnclaaW.EvKit
theorem gcd_ev : ∀ (n : Nat) (a b : Nat), b ≤ n → Ev (fun k => ratio_gcd.f k (a : Int) (b : Int)) ((Nat.gcd a b : Nat) : Int) := by
 intro n
 induction n with
 | zero =>
  intro a b hb
  obtain rfl : b = 0 := by omega
  refine Ev.step (fun k => ratio_gcd.l0.eq_2 _ _ k) (Ev.pos rfl ?_)
  rw [Nat.gcd_zero_right]
  exact Ev.ret _
 | succ n ih =>
  intro a b hb
  by_cases h0 : b = 0
  ·
   subst h0
   refine Ev.step (fun k => ratio_gcd.l0.eq_2 _ _ k) (Ev.pos rfl ?_)
   rw [Nat.gcd_zero_right]
   exact Ev.ret _
  ·
   refine Ev.step (fun k => ratio_gcd.l0.eq_2 _ _ k) (Ev.neg (by omega) ?_)
   have hlt := Nat.mod_lt a (show b > 0 by omega)
   have h := ih b (a % b) (by omega)
   have e : Int.tmod (a : Int) (b : Int) = ((a % b : Nat) : Int) := by
    rw [Int.tmod_eq_emod_of_nonneg (by omega)]; rfl
   rw [e, Nat.gcd_comm a b, Nat.gcd_rec b a, Nat.gcd_comm]
   exact h
def rightS (u d : Int) : Bool := decide (0 ≤ u ∧ 1 ≤ d ∧ u ≤ 1073741824 ∧ d ≤ 1073741824 ∧ Int.gcd u d = 1)
theorem gcd_evI {u d : Int} (hu : 0 ≤ u) (hd : 0 ≤ d) : Ev (fun k => ratio_gcd.f k u d) ((Int.gcd u d : Nat) : Int) := by
 obtain ⟨a, rfl⟩ := Int.eq_ofNat_of_zero_le hu
 obtain ⟨b, rfl⟩ := Int.eq_ofNat_of_zero_le hd
 exact gcd_ev b a b (Nat.le_refl _)
theorem right_g {f : Nat → Option Int} {u d : Int} (hf : 0 ≤ u → 1 ≤ d → Ev f ((Int.gcd u d : Nat) : Int)) :
  Ev (fun k => if u ≥ 0 then (if d ≥ 1 then (if u ≤ 1073741824 then (if d ≤ 1073741824 then ((f k).bind fun t => (some (t == 1))) else (some false)) else (some false)) else (some false)) else (some false)) (rightS u d) := by
 unfold rightS
 by_cases h0 : u ≥ 0
 ·
  by_cases h1 : d ≥ 1
  ·
   by_cases h2 : u ≤ 1073741824
   ·
    by_cases h3 : d ≤ 1073741824
    ·
     refine Ev.pos h0 (Ev.pos h1 (Ev.pos h2 (Ev.pos h3 (Ev.bind (hf h0 h1) (Ev.eq (Ev.ret _) ?_)))))
     rw [Bool.eq_iff_iff]
     simp [h2, h3]
     omega
    ·
     exact Ev.pos h0 (Ev.pos h1 (Ev.pos h2 (Ev.neg h3 (Ev.eq (Ev.ret _) (by symm; simp; omega)))))
   ·
    exact Ev.pos h0 (Ev.pos h1 (Ev.neg h2 (Ev.eq (Ev.ret _) (by symm; simp; omega))))
  ·
   exact Ev.pos h0 (Ev.neg h1 (Ev.eq (Ev.ret _) (by symm; simp; omega)))
 ·
  exact Ev.neg h0 (Ev.eq (Ev.ret _) (by symm; simp; omega))
theorem right_ev (u d : Int) : Ev (fun k => ratio_Right.f k u d) (rightS u d) := right_g (fun h0 h1 => gcd_evI h0 (by omega))
theorem rightS_iff {u d : Int} : rightS u d = true ↔ 0 ≤ u ∧ 1 ≤ d ∧ u ≤ 1073741824 ∧ d ≤ 1073741824 ∧ Int.gcd u d = 1 := by simp [rightS]
end Go.Proofs.Ytjbgnlhgjgnclaa.RatioSpec
end
section
namespace Go.Proofs.Ytjbgnlhgjgnclaa.DistPure
set_option linter.unusedVariables false
set_option linter.unusedSimpArgs false
open Go.RowKit Go.Proofs.Ytjbgnlhgjgnclaa.PB Go.Proofs.YtjbgnlhgjgnclaaW.PrintWords Go.Proofs.YtjbgnlhgjgnclaaW.PrintLast Go.Proofs.YtjbgnlhgjgnclaaW.PrintMore Go.Proofs.YtjbgnlhgjgnclaaW.EvKit
def I64 (x : Int) : Prop := -9223372036854775808 ≤ x ∧ x ≤ 9223372036854775807
def rS (u d : Int) : Bool := RatioSpec.rightS u d
def lossP (u d : Int) : Int := if rS u d = true then (if u < d then 3 else 0) else 2
theorem loss1F (u d : Int) : noise_loss.F u d = some (lossP u d) := by
 have h1 : ratio_Right.F u d = some (RatioSpec.rightS u d) := (ratio_Right.F_is u d).of_ev (RatioSpec.right_ev u d)
 rw [noise_loss.F_eq, h1, Option.bind_some]
 unfold lossP rS
 split <;> (try split) <;> rfl
theorem loss_ok {u d : Int} (h : lossP u d = 0) : ∃ a b : Nat, u = (a : Int) ∧ d = (b : Int) ∧ 1 ≤ b ∧ b ≤ a ∧ a ≤ 1073741824 ∧ Nat.gcd a b = 1 := by
 unfold lossP rS at h
 split at h
 ·
  rename_i hr
  obtain ⟨h1, h2, h3, h4, h5⟩ := RatioSpec.rightS_iff.1 hr
  split at h
  ·
   cases h
  ·
   obtain ⟨a, rfl⟩ := Int.eq_ofNat_of_zero_le h1
   obtain ⟨b, rfl⟩ := Int.eq_ofNat_of_zero_le (show 0 ≤ d by omega)
   exact ⟨a, b, rfl, rfl, by omega, by omega, by omega, h5⟩
 ·
  cases h
def capN (x : Nat) : Nat := if x > 1073741824 then 1073741825 else x
theorem pow_grow (a acc m : Nat) (ha : 1 ≤ a) : acc ≤ acc * a ^ m := Nat.le_mul_of_pos_right _ (Nat.pow_pos ha)
theorem npow_loop (a n : Nat) (ha : 1 ≤ a) (ha' : a ≤ 1073741824) (hn : n ≤ 4096) : ∀ (m i acc : Nat), i + m = n → acc ≤ 1073741824 →
  noise_power.L0 (a : Int) (acc : Int) (n : Int) (i : Int) = some ((capN (acc * a ^ m) : Nat) : Int) := by
 intro m
 induction m with
 | zero =>
  intro i acc hi hacc
  rw [noise_power.L0_eq, if_neg (by omega), Nat.pow_zero, Nat.mul_one]
  unfold capN
  rw [if_neg (by omega)]
 | succ m ih =>
  intro i acc hi hacc
  have hb : acc * a ≤ 1073741824 * 1073741824 := Nat.mul_le_mul hacc ha'
  have e : wrap64 ((acc : Int) * (a : Int)) = ((acc * a : Nat) : Int) := by rw [← Int.natCast_mul, wrap64_of (by omega) (by omega)]
  have ep : acc * a ^ (m + 1) = acc * a * a ^ m := by rw [Nat.pow_succ, Nat.mul_comm (a ^ m), Nat.mul_assoc]
  rw [noise_power.L0_eq, if_pos (by omega), e, ep]
  by_cases c : acc * a > 1073741824
  ·
   have := pow_grow a (acc * a) m ha
   rw [if_pos (by omega)]
   unfold capN
   rw [if_pos (by omega)]
   rfl
  ·
   rw [if_neg (by omega), w1 (by omega)]
   exact ih (i + 1) (acc * a) (by omega) (by omega)
theorem npowF {a n : Nat} (ha : 1 ≤ a) (ha' : a ≤ 1073741824) (hn : n ≤ 4096) : noise_power.F (a : Int) (n : Int) = some ((capN (a ^ n) : Nat) : Int) := by
 rw [noise_power.F_eq]
 have h := npow_loop a n ha ha' hn n 0 1 (by omega) (by omega)
 rw [Nat.one_mul] at h
 exact h
def dst (z t : Nat) : Nat := (z - t) + (t - z)
def wgt (u d reach t z : Nat) : Nat := d ^ dst z t * u ^ (reach - dst z t) * (if z = 0 ∨ z = reach then u else u - d)
structure Ok (u d reach : Nat) : Prop where
 d1 : 1 ≤ d
 du : d ≤ u
 u2 : u ≤ 1073741824
 r : reach ≤ 64
 p : u ^ reach ≤ 1073741824
 q : u ^ reach * (u + d) ≤ 1073741824
theorem Ok.pw {u d reach : Nat} (h : Ok u d reach) {k : Nat} (hk : k ≤ reach) : d ^ k ≤ 1073741824 ∧ u ^ (reach - k) ≤ 1073741824 ∧ d ^ k * u ^ (reach - k) ≤ u ^ reach := by
 have hu : 1 ≤ u := Nat.le_trans h.d1 h.du
 have h1 : d ^ k ≤ u ^ k := Nat.pow_le_pow_left h.du k
 have h2 : u ^ k ≤ u ^ reach := Nat.pow_le_pow_right hu hk
 have h3 : u ^ (reach - k) ≤ u ^ reach := Nat.pow_le_pow_right hu (by omega)
 have h4 : u ^ k * u ^ (reach - k) = u ^ reach := by rw [← Nat.pow_add]; congr 1; omega
 have h5 : d ^ k * u ^ (reach - k) ≤ u ^ k * u ^ (reach - k) := Nat.mul_le_mul_right _ h1
 have := h.p
 exact ⟨by omega, by omega, by omega⟩
theorem Ok.wb {u d reach : Nat} (h : Ok u d reach) {k f : Nat} (hk : k ≤ reach) (hf : f ≤ u) : d ^ k * u ^ (reach - k) * f ≤ 1073741824 := by
 have h1 := (h.pw hk).2.2
 have h2 : d ^ k * u ^ (reach - k) * f ≤ u ^ reach * (u + d) := Nat.mul_le_mul h1 (by omega)
 have := h.q
 omega
theorem capN_small {x : Nat} (h : x ≤ 1073741824) : capN x = x := by unfold capN; rw [if_neg (by omega)]
theorem dst_mx {z t : Nat} (hz : z ≤ 64) (ht : t ≤ 64) : mx (wrap64 ((z : Int) - (t : Int))) (wrap64 ((t : Int) - (z : Int))) = ((dst z t : Nat) : Int) := by
 rw [wrap64_of (by omega) (by omega), wrap64_of (by omega) (by omega)]
 unfold mx dst
 split <;> omega
theorem dst_le {z t reach : Nat} (hz : z ≤ reach) (ht : t ≤ reach) : dst z t ≤ reach := by unfold dst; omega
def wL (u d reach t n : Nat) : List Int := (List.range n).map (fun (z : Nat) => ((wgt u d reach t z : Nat) : Int))
theorem wL_succ (u d reach t n : Nat) : wL u d reach t (n + 1) = wL u d reach t n ++ [((wgt u d reach t n : Nat) : Int)] := by
 unfold wL; rw [List.range_succ, List.map_append]; rfl
theorem wL_len (u d reach t n : Nat) : (wL u d reach t n).length = n := by unfold wL; simp
theorem set_at {α : Type} (A : List α) (x y : α) (B : List α) : (A ++ x :: B).set A.length y = A ++ y :: B := by simp
theorem ways_loop {u d reach : Nat} (h : Ok u d reach) (t : Nat) (ht : t ≤ reach) : ∀ (n z : Nat), z + n = reach + 1 →
  noise_ways.L0 (reach : Int) (t : Int) (wL u d reach t z ++ List.replicate n 0) ((reach + 1 : Nat) : Int) (z : Int) (u : Int) (d : Int) = some (wL u d reach t (reach + 1)) := by
 intro n
 have hr := h.r
 have hu : 1 ≤ u := Nat.le_trans h.d1 h.du
 induction n with
 | zero =>
  intro z hz
  obtain rfl : z = reach + 1 := by omega
  rw [noise_ways.L0_eq, if_neg (by omega), List.replicate_zero, List.append_nil]
 | succ n ih =>
  intro z hz
  have hk := dst_le (z := z) (by omega) ht
  obtain ⟨p1, p2, p3⟩ := h.pw hk
  have hd2 := h.du
  have hu2 := h.u2
  have e1 := npowF (a := d) (n := dst z t) h.d1 (by omega) (by omega)
  have e2 := npowF (a := u) (n := reach - dst z t) hu h.u2 (by omega)
  rw [capN_small p1] at e1
  rw [capN_small p2] at e2
  have e3 : wrap64 ((reach : Int) - ((dst z t : Nat) : Int)) = ((reach - dst z t : Nat) : Int) := by rw [wrap64_of (by omega) (by omega)]; omega
  have e4 : wrap64 (((d ^ dst z t : Nat) : Int) * ((u ^ (reach - dst z t) : Nat) : Int)) = ((d ^ dst z t * u ^ (reach - dst z t) : Nat) : Int) := by
   rw [← Int.natCast_mul, wrap64_of (by omega) (by have := h.p; omega)]
  have hlen : (wL u d reach t z ++ List.replicate (n + 1) 0).length = reach + 1 := by rw [List.length_append, wL_len, List.length_replicate]; omega
  have hset : ∀ v : Int, (wL u d reach t z ++ List.replicate (n + 1) 0).set z v = wL u d reach t z ++ v :: List.replicate n 0 := fun v => by
   rw [List.replicate_succ]
   have := set_at (wL u d reach t z) 0 v (List.replicate n 0)
   rw [wL_len] at this
   exact this
  have hset2 : ∀ v v' : Int, (wL u d reach t z ++ v :: List.replicate n 0).set z v' = wL u d reach t z ++ v' :: List.replicate n 0 := fun v v' => by
   have := set_at (wL u d reach t z) v v' (List.replicate n 0)
   rw [wL_len] at this
   exact this
  have hrd : ∀ v : Int, rd (wL u d reach t z ++ v :: List.replicate n 0) (z : Int) = v := fun v => by
   rw [rd_nat, List.getD_eq_getElem?_getD, List.getElem?_append_right (by rw [wL_len]; exact Nat.le_refl _), wL_len, Nat.sub_self]; rfl
  rw [noise_ways.L0_eq, if_pos (by omega), dst_mx (by omega) (by omega), e1, Option.bind_some, e3, e2, Option.bind_some, if_pos (by omega), if_pos (by rw [hlen]; omega), e4, Option.bind_some, Int.toNat_natCast, hset, hrd, hset2, w1 (by omega)]
  have fin : ∀ f : Nat, f ≤ u → f = (if z = 0 ∨ z = reach then u else u - d) → noise_ways.L0 (reach : Int) (t : Int) (wL u d reach t z ++ wrap64 (((d ^ dst z t * u ^ (reach - dst z t) : Nat) : Int) * (f : Int)) :: List.replicate n 0) ((reach + 1 : Nat) : Int) ((z + 1 : Nat) : Int) (u : Int) (d : Int) = some (wL u d reach t (reach + 1)) := by
   intro f hf ef
   have hb := h.wb (f := f) hk hf
   have e5 : wrap64 (((d ^ dst z t * u ^ (reach - dst z t) : Nat) : Int) * (f : Int)) = ((wgt u d reach t z : Nat) : Int) := by
    rw [← Int.natCast_mul, wrap64_of (by omega) (by omega)]
    unfold wgt
    rw [← ef]
   rw [e5]
   have e6 : wL u d reach t z ++ ((wgt u d reach t z : Nat) : Int) :: List.replicate n 0 = wL u d reach t (z + 1) ++ List.replicate n 0 := by rw [wL_succ, List.append_assoc]; rfl
   rw [e6]
   exact ih (z + 1) (by omega)
  by_cases c1 : z = 0
  ·
   rw [if_pos (by omega)]
   exact fin u (Nat.le_refl u) (by rw [if_pos (.inl c1)])
  ·
   rw [if_neg (by omega)]
   by_cases c2 : z = reach
   ·
    rw [if_pos (by omega)]
    exact fin u (Nat.le_refl u) (by rw [if_pos (.inr c2)])
   ·
    have e7 : wrap64 ((u : Int) - (d : Int)) = ((u - d : Nat) : Int) := by rw [wrap64_of (by omega) (by omega)]; omega
    rw [if_neg (by omega), hset2, e7]
    exact fin (u - d) (by omega) (by rw [if_neg (by omega)])
theorem waysF {u d reach : Nat} (h : Ok u d reach) (t : Nat) (ht : t ≤ reach) : noise_ways.F (u : Int) (d : Int) (reach : Int) (t : Int) = some (wL u d reach t (reach + 1)) := by
 have hr := h.r
 rw [noise_ways.F_eq, w1 (by omega), if_pos (by omega), Int.toNat_natCast, if_pos (by omega), Option.bind_some]
 have h := ways_loop h t ht (reach + 1) 0 (by omega)
 have e0 : wL u d reach t 0 = [] := rfl
 rw [e0, List.nil_append] at h
 rw [List.length_replicate]
 exact h
def hidL (low : Int) (u d reach t n : Nat) : List S64 := (List.range n).map (fun (z : Nat) => (⟨[low + (z : Int)], ((wgt u d reach t z : Nat) : Int)⟩ : S64))
theorem hidL_succ (low : Int) (u d reach t n : Nat) : hidL low u d reach t (n + 1) = hidL low u d reach t n ++ [⟨[low + (n : Int)], ((wgt u d reach t n : Nat) : Int)⟩] := by
 unfold hidL; rw [List.range_succ, List.map_append]; rfl
theorem hidL_bd (low : Int) (u d reach t n : Nat) (hn : n ≤ 1048576) : Bd (hidL low u d reach t n) := by
 refine ⟨by unfold hidL; simpa using hn, fun p hp => ?_⟩
 unfold hidL at hp
 obtain ⟨z, _, rfl⟩ := List.mem_map.1 hp
 simp
theorem hide_loop (low : Int) (h0 : -1073741824 ≤ low) (h1 : low ≤ 1073741824) (u d reach t : Nat) (hr : reach ≤ 64) : ∀ (n z : Nat), z + n = reach + 1 →
  noise_Hide.L0 low (hidL low u d reach t z) (wL u d reach t (reach + 1)) ((reach + 1 : Nat) : Int) (z : Int) = some (makeP (hidL low u d reach t (reach + 1))) := by
 intro n
 induction n with
 | zero =>
  intro z hz
  obtain rfl : z = reach + 1 := by omega
  rw [noise_Hide.L0_eq, if_neg (by omega), makeF1 _ (hidL_bd low u d reach t (reach + 1) (by omega)), Option.bind_some]
 | succ n ih =>
  intro z hz
  have hlen : (hidL low u d reach t z).length = z := by unfold hidL; simp
  have hrd : rd (wL u d reach t (reach + 1)) (z : Int) = ((wgt u d reach t z : Nat) : Int) := by
   rw [rd_nat]
   unfold wL
   rw [List.getD_eq_getElem?_getD, List.getElem?_map, List.getElem?_range (by omega)]; rfl
  rw [noise_Hide.L0_eq, if_pos (by omega), if_pos (by omega), if_pos (by rw [wL_len]; omega), if_pos (by omega), hrd, w1 (by omega), wrap64_of (x := low + (z : Int)) (by omega) (by omega), ← hidL_succ]
  exact ih (z + 1) (by omega)
theorem one_sure_bd (o : List Int) (x : Int) (h : o.length ≤ 1048576) : Bd [(⟨o, x⟩ : S64)] := ⟨by simp, fun p hp => by rw [List.mem_singleton.1 hp]; exact h⟩
inductive HideForm (u d low high : Int) : Prop
 | bad (e : Int) (he : e ≠ 0) (h : ∀ number, noise_Hide.F u d low high number = some ([], e))
 | sure (he : low = high) (h0 : -1073741824 ≤ low) (h1 : low ≤ 1073741824) (h : ∀ number, noise_Hide.F u d low high number = some (makeP [⟨[low], 1⟩]))
 | many (a c reach : Nat) (hu : u = a) (hd : d = c) (hok : Ok a c reach) (hco : Nat.gcd a c = 1) (hr : 1 ≤ reach) (hh : high = low + (reach : Int)) (h0 : -1073741824 ≤ low) (h1 : high ≤ 1073741824)
   (h : ∀ number (t : Nat), t ≤ reach → mn (mx number low) high = low + (t : Int) → noise_Hide.F u d low high number = some (makeP (hidL low a c reach t (reach + 1))))
theorem hide_form (u d low high : Int) (hl : I64 low) (hh : I64 high) : HideForm u d low high := by
 have e1 := loss1F u d
 obtain ⟨l0, l1⟩ := hl
 obtain ⟨h0, h1⟩ := hh
 by_cases c : lossP u d = 0
 ·
  have go : ∀ number, noise_Hide.F u d low high number = (if low < -1073741824 then noise_Hide.J0 low high number true u d else if high > 1073741824 then noise_Hide.J0 low high number true u d else if low > high then noise_Hide.J0 low high number true u d else noise_Hide.J0 low high number (decide (wrap64 (high - low) > 64)) u d) := fun number => by
   rw [noise_Hide.F_eq, e1, Option.bind_some, if_pos c]
  have bad : ∀ number, noise_Hide.J0 low high number true u d = some ([], 3) := fun number => by rw [noise_Hide.J0_eq, if_pos rfl]
  by_cases c1 : low < -1073741824
  ·
   exact .bad 3 (by decide) (fun number => by rw [go, if_pos c1, bad])
  by_cases c2 : high > 1073741824
  ·
   exact .bad 3 (by decide) (fun number => by rw [go, if_neg c1, if_pos c2, bad])
  by_cases c3 : low > high
  ·
   exact .bad 3 (by decide) (fun number => by rw [go, if_neg c1, if_neg c2, if_pos c3, bad])
  have ew : wrap64 (high - low) = high - low := wrap64_of (by omega) (by omega)
  by_cases c4 : high - low > 64
  ·
   exact .bad 3 (by decide) (fun number => by rw [go, if_neg c1, if_neg c2, if_neg c3, ew, decide_eq_true c4, bad])
  have go2 : ∀ number, noise_Hide.F u d low high number = noise_Hide.J0 low high number false u d := fun number => by rw [go, if_neg c1, if_neg c2, if_neg c3, ew, decide_eq_false c4]
  by_cases e : low = high
  ·
   refine .sure e (by omega) (by omega) (fun number => ?_)
   have hs : Bd [(⟨[low], 1⟩ : S64)] := one_sure_bd _ _ (by simp)
   rw [go2, noise_Hide.J0_eq, if_neg (by decide), if_pos e, dist_Sure.F_eq, makeF1 _ hs, Option.bind_some, Option.bind_some]
  obtain ⟨a, k, rfl, rfl, k1, ka, a2, hg⟩ := loss_ok c
  obtain ⟨reach, hr⟩ := Int.eq_ofNat_of_zero_le (show 0 ≤ high - low by omega)
  obtain rfl : high = low + (reach : Int) := by omega
  have ew' : wrap64 (low + (reach : Int) - low) = (reach : Int) := by rw [ew]; omega
  have ha : 1 ≤ a := by omega
  have e1 := npowF (a := a) (n := reach) ha a2 (by omega)
  have go3 : ∀ number, noise_Hide.F (a : Int) (k : Int) low (low + (reach : Int)) number = noise_Hide.J0 low (low + (reach : Int)) number false (a : Int) (k : Int) := go2
  by_cases d2 : a ^ reach > 1073741824
  ·
   have e3 : capN (a ^ reach) = 1073741825 := by unfold capN; rw [if_pos d2]
   refine .bad 4 (by decide) (fun number => ?_)
   rw [go3, noise_Hide.J0_eq, if_neg (by decide), if_neg e, ew', e1, Option.bind_some, e3, if_pos (by decide), noise_Hide.J1_eq, if_pos rfl]
  ·
   have hm : a ^ reach * (a + k) ≤ 1073741824 * 2147483648 := Nat.mul_le_mul (by omega) (by omega)
   have e4 : wrap64 (((a ^ reach : Nat) : Int) * (wrap64 ((a : Int) + (k : Int)))) = ((a ^ reach * (a + k) : Nat) : Int) := by
    rw [wrap64_of (x := (a : Int) + (k : Int)) (by omega) (by omega), ← Int.natCast_add, ← Int.natCast_mul, wrap64_of (by omega) (by omega)]
   have go4 : ∀ number, noise_Hide.F (a : Int) (k : Int) low (low + (reach : Int)) number = noise_Hide.J1 low (low + (reach : Int)) number (decide (((a ^ reach * (a + k) : Nat) : Int) > 1073741824)) (a : Int) (k : Int) := fun number => by
    rw [go3, noise_Hide.J0_eq, if_neg (by decide), if_neg e, ew', e1, Option.bind_some, capN_small (by omega), if_neg (by omega), e4]
   by_cases d3 : ((a ^ reach * (a + k) : Nat) : Int) > 1073741824
   ·
    refine .bad 4 (by decide) (fun number => ?_)
    rw [go4, decide_eq_true d3, noise_Hide.J1_eq, if_pos rfl]
   ·
    have hok : Ok a k reach := ⟨k1, ka, a2, by omega, by omega, by omega⟩
    refine .many a k reach rfl rfl hok hg (by omega) rfl (by omega) (by omega) (fun number t ht et => ?_)
    have L1 := hide_loop low (by omega) (by omega) a k reach t (by omega) (reach + 1) 0 (by omega)
    have hl0 : hidL low a k reach t 0 = [] := rfl
    rw [hl0] at L1
    have ew2 : wrap64 (low + (t : Int) - low) = (t : Int) := by rw [wrap64_of (by omega) (by omega)]; omega
    rw [go4, decide_eq_false d3, noise_Hide.J1_eq, if_neg (by decide), et, ew', ew2, waysF hok t ht, Option.bind_some, wL_len]
    exact L1
 ·
  refine .bad _ c (fun number => ?_)
  rw [noise_Hide.F_eq, e1, Option.bind_some, if_neg c]
end Go.Proofs.Ytjbgnlhgjgnclaa.DistPure
end
section
namespace Go.Proofs.Ytjbgnlhgjgnclaa.DistPure
set_option linter.unusedVariables false
set_option linter.unusedSimpArgs false
open Go.RowKit Go.Proofs.Ytjbgnlhgjgnclaa.PB Go.Proofs.YtjbgnlhgjgnclaaW.PrintWords Go.Proofs.YtjbgnlhgjgnclaaW.PrintLast Go.Proofs.YtjbgnlhgjgnclaaW.PrintMore Go.Proofs.YtjbgnlhgjgnclaaW.EvKit
theorem alive_yes : hushlaw6_alive.F = some true := by
 have hf := hide_form 2 1 0 1 ⟨by omega, by omega⟩ ⟨by omega, by omega⟩
 have hok : Ok 2 1 1 := ⟨by omega, by omega, by omega, by omega, by omega, by omega⟩
 have e : noise_Hide.F 2 1 0 1 0 = some (makeP (numL 0 (wgt 2 1 1 0) 2)) := by
  have e1 := loss1F 2 1
  have hl : lossP 2 1 = 0 := by decide +kernel
  have p1 := npowF (a := 2) (n := 1) (by omega) (by omega) (by omega)
  have L1 := hide_loop 0 (by omega) (by omega) 2 1 1 0 (by omega) 2 0 (by omega)
  have hl0 : hidL 0 2 1 1 0 0 = [] := rfl
  rw [hl0] at L1
  have wv := waysF hok 0 (by omega)
  have em : mn (mx (0 : Int) 0) 1 = 0 := by decide +kernel
  have c1 : capN (2 ^ 1) = 2 := by decide +kernel
  have e2 : wrap64 (1 - 0) = 1 := by decide +kernel
  have e3 : wrap64 (0 - 0) = 0 := by decide +kernel
  have e4 : decide (wrap64 (((2 : Nat) : Int) * wrap64 (2 + 1)) > 1073741824) = false := by decide +kernel
  have e5 : decide (wrap64 (1 - 0) > 64) = false := by decide +kernel
  have p1' : noise_power.F 2 1 = some ((2 : Nat) : Int) := by rw [c1] at p1; exact p1
  have wv' : noise_ways.F 2 1 1 0 = some (wL 2 1 1 0 2) := wv
  have L1' : noise_Hide.L0 0 ([] : List S64) (wL 2 1 1 0 2) 2 0 = some (makeP (numL 0 (wgt 2 1 1 0) 2)) := L1
  have wl : (((wL 2 1 1 0 2).length : Nat) : Int) = 2 := by rw [wL_len]; rfl
  rw [noise_Hide.F_eq, e1, hl, Option.bind_some, if_pos rfl, if_neg (by decide), if_neg (by decide), if_neg (by decide), e5, noise_Hide.J0_eq, if_neg (by decide), if_neg (by decide), e2, p1', Option.bind_some, if_neg (by decide), e4, noise_Hide.J1_eq, if_neg (by decide), em, e2, e3, wv', Option.bind_some, wl]
  exact L1'
 have ho : Ord (numL 0 (wgt 2 1 1 0) 2) := numL_ord (by omega) (by omega) (by omega) (by omega) (fun z hz => by
  match z, hz with
  | 0, _ => decide
  | 1, _ => decide) (by decide)
 have hl : (divG (numL 0 (wgt 2 1 1 0) 2)).length = 2 := by unfold divG; rw [List.length_map, numL_len]
 rw [hushlaw6_alive.F_eq, e, Option.bind_some, ho.make, if_pos rfl]
 dsimp only
 rw [hl]
 rfl
end Go.Proofs.Ytjbgnlhgjgnclaa.DistPure
end
section
namespace Go.Proofs.Ytjbgnlhgjgnclaa.RatioSpec
set_option linter.unusedVariables false
open Go.RowKit Go.Proofs.Ytjbgnlhgjgnclaa.PB Go.Proofs.YtjbgnlhgjgnclaaW.PrintWords Go.Proofs.YtjbgnlhgjgnclaaW.PrintLast Go.Proofs.YtjbgnlhgjgnclaaW.PrintMore Go.Proofs.YtjbgnlhgjgnclaaW.EvKit
theorem tm2 (x : Nat) : Int.tmod (x : Int) 2 = ((x % 2 : Nat) : Int) := by rw [Int.tmod_eq_emod_of_nonneg (by omega)]; rfl
theorem td2 (x : Nat) (h : x ≤ 9223372036854775807) : wrap64 (Int.tdiv (x : Int) 2) = ((x / 2 : Nat) : Int) := by
 rw [Int.tdiv_eq_ediv_of_nonneg (by omega), wrap64_of (by omega) (by omega)]; rfl
theorem div_l2 : ∀ (t a : Nat), t ≤ 4611686018427387904 → a * 2 ^ t ≤ 9223372036854775807 → Ev (fun k => hushref1_Divisor.l2 k (a : Int) (t : Int)) ((a * 2 ^ t : Nat) : Int) := by
 intro t
 induction t with
 | zero =>
  intro a _ _
  refine Ev.step (fun k => hushref1_Divisor.l2.eq_2 _ _ k) (Ev.neg (by omega) ?_)
  simpa using Ev.ret _
 | succ t ih =>
  intro a ht h
  have h1 : a ≤ a * 2 ^ t := Nat.le_mul_of_pos_right _ (Nat.two_pow_pos t)
  rw [Nat.pow_succ] at h
  have h2 : a * (2 ^ t * 2) = 2 * a * 2 ^ t := by rw [Nat.mul_comm (2 ^ t) 2, ← Nat.mul_assoc, Nat.mul_comm a 2]
  rw [h2] at h
  have h3 : 2 * a ≤ 2 * a * 2 ^ t := Nat.le_mul_of_pos_right _ (Nat.two_pow_pos t)
  have h4 := ih (2 * a) (by omega) h
  refine Ev.step (fun k => hushref1_Divisor.l2.eq_2 _ _ k) (Ev.pos (by omega) ?_)
  have e1 : wrap64 (2 * (a : Int)) = ((2 * a : Nat) : Int) := by rw [wrap64_of (by omega) (by omega)]; omega
  have e2 : wrap64 (((t + 1 : Nat) : Int) - 1) = ((t : Nat) : Int) := by rw [wrap64_of (by omega) (by omega)]; omega
  simp only [e1, e2]
  rw [Nat.pow_succ, h2]
  exact h4
theorem gcd_half {x y : Nat} (hx : x % 2 = 0) (hy : y % 2 = 1) : Nat.gcd (x / 2) y = Nat.gcd x y := by
 have h : x = 2 * (x / 2) := by omega
 have hc : Nat.Coprime 2 y := by
  unfold Nat.Coprime
  rw [Nat.gcd_rec, hy]
  decide
 rw [h]
 simp only [Nat.mul_div_cancel_left _ (show 0 < 2 by decide)]
 exact (Nat.Coprime.gcd_mul_left_cancel (x / 2) hc).symm
theorem div_l1 : ∀ (n x y t : Nat) {r : Int}, x + y ≤ n → 0 < x → 0 < y → (x % 2 = 1 ∨ y % 2 = 1) → x ≤ 9223372036854775807 → y ≤ 9223372036854775807 →
  Ev (fun k => hushref1_Divisor.l2 k ((Nat.gcd x y : Nat) : Int) (t : Int)) r → Ev (fun k => hushref1_Divisor.l1 k (x : Int) (y : Int) (t : Int)) r := by
 intro n
 induction n with
 | zero => intro x y t r h hx; omega
 | succ n ih =>
  intro x y t r h hx hy ho bx bY hr
  by_cases he : x = y
  ·
   subst he
   rw [Nat.gcd_self] at hr
   exact Ev.step (fun k => hushref1_Divisor.l1.eq_2 _ _ _ k) (Ev.pos rfl hr)
  ·
   refine Ev.step (fun k => hushref1_Divisor.l1.eq_2 _ _ _ k) (Ev.neg (by omega) ?_)
   rw [tm2, tm2, td2 x bx, td2 y bY]
   by_cases h0 : x % 2 = 0
   ·
    refine Ev.pos (by omega) (ih (x / 2) y t (by omega) (by omega) hy (by omega) (by omega) bY ?_)
    rw [gcd_half h0 (by omega)]
    exact hr
   ·
    refine Ev.neg (by omega) ?_
    by_cases h1 : y % 2 = 0
    ·
     refine Ev.pos (by omega) (ih x (y / 2) t (by omega) hx (by omega) (by omega) bx (by omega) ?_)
     rw [Nat.gcd_comm, gcd_half h1 (by omega), Nat.gcd_comm]
     exact hr
    ·
     refine Ev.neg (by omega) ?_
     by_cases h2 : x > y
     ·
      refine Ev.pos (by omega) ?_
      have e : wrap64 ((x : Int) - (y : Int)) = ((x - y : Nat) : Int) := by rw [wrap64_of (by omega) (by omega)]; omega
      rw [e]
      refine ih (x - y) y t (by omega) (by omega) hy (by omega) (by omega) bY ?_
      rw [Nat.gcd_sub_self_left (by omega)]
      exact hr
     ·
      refine Ev.neg (by omega) ?_
      have e : wrap64 ((y : Int) - (x : Int)) = ((y - x : Nat) : Int) := by rw [wrap64_of (by omega) (by omega)]; omega
      rw [e]
      refine ih x (y - x) t (by omega) hx (by omega) (by omega) bx (by omega) ?_
      rw [Nat.gcd_sub_self_right (by omega)]
      exact hr
theorem div_l0 : ∀ (n x y t : Nat) {r : Int}, x ≤ n → 0 < x → 0 < y → x ≤ 9223372036854775807 → y ≤ 9223372036854775807 → t + n ≤ 9223372036854775807 →
  Ev (fun k => hushref1_Divisor.l2 k ((Nat.gcd x y : Nat) : Int) (t : Int)) r → Ev (fun k => hushref1_Divisor.l0 k (x : Int) (y : Int) (t : Int)) r := by
 intro n
 induction n with
 | zero => intro x y t r h hx; omega
 | succ n ih =>
  intro x y t r h hx hy bx bY ht hr
  have hj : (x % 2 = 1 ∨ y % 2 = 1) → Ev (fun k => hushref1_Divisor.j1 k (x : Int) (y : Int) (t : Int)) r := fun ho =>
   Ev.step (fun k => hushref1_Divisor.j1.eq_2 _ _ _ k) (div_l1 (x + y) x y t (Nat.le_refl _) hx hy ho bx bY hr)
  refine Ev.step (fun k => hushref1_Divisor.l0.eq_2 _ _ _ k) ?_
  rw [tm2, tm2, td2 x bx, td2 y bY]
  by_cases h0 : x % 2 = 0
  ·
   by_cases h1 : y % 2 = 0
   ·
    have e : wrap64 ((t : Int) + 1) = ((t + 1 : Nat) : Int) := by rw [wrap64_of (by omega) (by omega)]; omega
    refine Ev.pos (by omega) (Ev.pos (by omega) ?_)
    rw [e]
    refine ih (x / 2) (y / 2) (t + 1) (by omega) (by omega) (by omega) (by omega) (by omega) (by omega) ?_
    have hg : Nat.gcd x y = 2 * Nat.gcd (x / 2) (y / 2) := by
     rw [← Nat.gcd_mul_left]
     congr 1 <;> omega
    have hle : Nat.gcd x y ≤ x := Nat.gcd_le_left y hx
    refine Ev.step (fun k => hushref1_Divisor.l2.eq_2 _ _ k) (Ev.pos (by omega) ?_)
    have e1 : wrap64 (2 * ((Nat.gcd (x / 2) (y / 2) : Nat) : Int)) = ((Nat.gcd x y : Nat) : Int) := by rw [wrap64_of (by omega) (by omega)]; omega
    have e2 : wrap64 (((t + 1 : Nat) : Int) - 1) = ((t : Nat) : Int) := by rw [wrap64_of (by omega) (by omega)]; omega
    simp only [e1, e2]
    exact hr
   ·
    exact Ev.pos (by omega) (Ev.neg (by omega) (hj (by omega)))
  ·
   exact Ev.neg (by omega) (hj (by omega))
theorem div_ev {u d : Int} (hu : 0 ≤ u) (hd : 1 ≤ d) (bu : u ≤ 9223372036854775807) (bd : d ≤ 9223372036854775807) : Ev (fun k => hushref1_Divisor.f k u d) ((Int.gcd u d : Nat) : Int) := by
 obtain ⟨x, rfl⟩ := Int.eq_ofNat_of_zero_le hu
 obtain ⟨y, rfl⟩ := Int.eq_ofNat_of_zero_le (show 0 ≤ d by omega)
 by_cases h0 : x = 0
 ·
  subst h0
  refine Ev.pos rfl (Ev.eq (Ev.ret _) ?_)
  simp
 ·
  refine Ev.neg (by omega) ?_
  show Ev (fun k => hushref1_Divisor.l0 k (x : Int) (y : Int) 0) ((Nat.gcd x y : Nat) : Int)
  refine div_l0 x x y 0 (Nat.le_refl _) (by omega) (by omega) (by omega) (by omega) (by omega) ?_
  refine Ev.eq (div_l2 0 (Nat.gcd x y) (by omega) ?_) (by simp)
  have := Nat.gcd_le_left y (show 0 < x by omega)
  simp
  omega
theorem rright_ev {u d : Int} (hu : -9223372036854775808 ≤ u ∧ u ≤ 9223372036854775807) (hd : -9223372036854775808 ≤ d ∧ d ≤ 9223372036854775807) : Ev (fun k => hushref1_Right.f k u d) (rightS u d) := right_g (fun h0 h1 => div_ev h0 h1 hu.2 hd.2)
end Go.Proofs.Ytjbgnlhgjgnclaa.RatioSpec
end
section
namespace Go.Proofs.Ytjbgnlhgjgnclaa.PB
open Go.RowKit Go.Proofs.YtjbgnlhgjgnclaaW.PrintWords Go.Proofs.YtjbgnlhgjgnclaaW.PrintLast Go.Proofs.YtjbgnlhgjgnclaaW.PrintMore
open Go.Proofs.YtjbgnlhgjgnclaaW.EvKit
set_option linter.unusedVariables false
noncomputable def hushref1_Power.J0 (x1 : Int) (x18 : Bool) (x297000 : Int) (x297001 : Int) : Option (Int × Int × Int) := lim (fun k => hushref1_Power.j0 k x1 x18 x297000 x297001)
theorem hushref1_Power.J0_is (x1 : Int) (x18 : Bool) (x297000 : Int) (x297001 : Int) : LimIs (fun k => hushref1_Power.j0 k x1 x18 x297000 x297001) (hushref1_Power.J0 x1 x18 x297000 x297001) := ⟨fun k => (hushref1_Power.mono_l k).1 x1 x18 x297000 x297001, rfl⟩
noncomputable def hushref1_Power.L0 (x1 : Int) (x6 : Int) (x7 : Int) (x8 : Int) (x297000 : Int) (x297001 : Int) : Option (Int × Int × Int) := lim (fun k => hushref1_Power.l0 k x1 x6 x7 x8 x297000 x297001)
theorem hushref1_Power.L0_is (x1 : Int) (x6 : Int) (x7 : Int) (x8 : Int) (x297000 : Int) (x297001 : Int) : LimIs (fun k => hushref1_Power.l0 k x1 x6 x7 x8 x297000 x297001) (hushref1_Power.L0 x1 x6 x7 x8 x297000 x297001) := ⟨fun k => (hushref1_Power.mono_l k).2 x1 x6 x7 x8 x297000 x297001, rfl⟩
noncomputable def hushref1_Power.F (a0_0 : Int) (a0_1 : Int) (a1 : Int) : Option (Int × Int × Int) := lim (fun k => hushref1_Power.f k a0_0 a0_1 a1)
theorem hushref1_Power.F_is (a0_0 : Int) (a0_1 : Int) (a1 : Int) : LimIs (fun k => hushref1_Power.f k a0_0 a0_1 a1) (hushref1_Power.F a0_0 a0_1 a1) := ⟨fun k => hushref1_Power.mono a0_0 a0_1 a1 k, rfl⟩
noncomputable def hushref6_Lost.F (a0_0 : Int) (a0_1 : Int) (a1 : Int) : Option (Int × Int × Int) := lim (fun k => hushref6_Lost.f k a0_0 a0_1 a1)
theorem hushref6_Lost.F_is (a0_0 : Int) (a0_1 : Int) (a1 : Int) : LimIs (fun k => hushref6_Lost.f k a0_0 a0_1 a1) (hushref6_Lost.F a0_0 a0_1 a1) := ⟨fun k => hushref6_Lost.mono a0_0 a0_1 a1 k, rfl⟩
set_option maxRecDepth 100000 in
theorem hushref1_Power.J0_eq (x1 : Int) (x18 : Bool) (x297000 : Int) (x297001 : Int) : hushref1_Power.J0 x1 x18 x297000 x297001 = if x18 = true then (some (0, 0, 3)) else (hushref1_Power.L0 x1 1 1 0 x297000 x297001) := by
 refine LimIs.step' (hushref1_Power.J0_is x1 x18 x297000 x297001).1 (b := fun k => if x18 = true then (some (0, 0, 3)) else (hushref1_Power.l0 k x1 1 1 0 x297000 x297001)) (fun k => by first | rfl | rw [hushref1_Power.j0]) ?_
 repeat' first
  | (with_reducible exact hushref1_Power.L0_is _ _ _ _ _ _)
  | (with_reducible exact LimIs.const _)
  | (with_reducible refine LimIs.ite ?_ ?_)
  | (with_reducible refine LimIs.bind ?_ (fun _ => ?_))
  | exact hushref1_Power.L0_is _ _ _ _ _ _
  | exact LimIs.const _
  | refine LimIs.ite ?_ ?_
  | refine LimIs.bind ?_ (fun _ => ?_)
set_option maxRecDepth 100000 in
theorem hushref1_Power.L0_eq (x1 : Int) (x6 : Int) (x7 : Int) (x8 : Int) (x297000 : Int) (x297001 : Int) : hushref1_Power.L0 x1 x6 x7 x8 x297000 x297001 = if x8 < x1 then (if (wrap64 (x6 * x297000)) > 1073741824 then (some (0, 0, 4)) else (if (wrap64 (x7 * x297001)) > 1073741824 then (some (0, 0, 4)) else (hushref1_Power.L0 x1 (wrap64 (x6 * x297000)) (wrap64 (x7 * x297001)) (wrap64 (x8 + 1)) x297000 x297001))) else (if x6 = 0 then (some (x6, 1, 0)) else (some (x6, x7, 0))) := by
 refine LimIs.step' (hushref1_Power.L0_is x1 x6 x7 x8 x297000 x297001).1 (b := fun k => if x8 < x1 then (if (wrap64 (x6 * x297000)) > 1073741824 then (some (0, 0, 4)) else (if (wrap64 (x7 * x297001)) > 1073741824 then (some (0, 0, 4)) else (hushref1_Power.l0 k x1 (wrap64 (x6 * x297000)) (wrap64 (x7 * x297001)) (wrap64 (x8 + 1)) x297000 x297001))) else (if x6 = 0 then (some (x6, 1, 0)) else (some (x6, x7, 0)))) (fun k => by first | rfl | rw [hushref1_Power.l0]) ?_
 repeat' first
  | (with_reducible exact hushref1_Power.L0_is _ _ _ _ _ _)
  | (with_reducible exact LimIs.const _)
  | (with_reducible refine LimIs.ite ?_ ?_)
  | (with_reducible refine LimIs.bind ?_ (fun _ => ?_))
  | exact hushref1_Power.L0_is _ _ _ _ _ _
  | exact LimIs.const _
  | refine LimIs.ite ?_ ?_
  | refine LimIs.bind ?_ (fun _ => ?_)
set_option maxRecDepth 100000 in
theorem hushref1_Power.F_eq (a0_0 : Int) (a0_1 : Int) (a1 : Int) : hushref1_Power.F a0_0 a0_1 a1 = (hushref1_Right.F a0_0 a0_1).bind fun t298 => (if t298 = true then (if a1 < 0 then (hushref1_Power.J0 a1 true a0_0 a0_1) else (hushref1_Power.J0 a1 (decide (a1 > 4096)) a0_0 a0_1)) else (some (0, 0, 2))) := by
 refine LimIs.out (?_ : LimIs (fun k => (hushref1_Right.f k a0_0 a0_1).bind fun t298 => (if t298 = true then (if a1 < 0 then (hushref1_Power.j0 k a1 true a0_0 a0_1) else (hushref1_Power.j0 k a1 (decide (a1 > 4096)) a0_0 a0_1)) else (some (0, 0, 2)))) _)
 repeat' first
  | (with_reducible exact hushref1_Right.F_is _ _)
  | (with_reducible exact hushref1_Power.J0_is _ _ _ _)
  | (with_reducible exact LimIs.const _)
  | (with_reducible refine LimIs.ite ?_ ?_)
  | (with_reducible refine LimIs.bind ?_ (fun _ => ?_))
  | exact hushref1_Right.F_is _ _
  | exact hushref1_Power.J0_is _ _ _ _
  | exact LimIs.const _
  | refine LimIs.ite ?_ ?_
  | refine LimIs.bind ?_ (fun _ => ?_)
set_option maxRecDepth 100000 in
theorem hushref6_Lost.F_eq (a0_0 : Int) (a0_1 : Int) (a1 : Int) : hushref6_Lost.F a0_0 a0_1 a1 = (hushref6_Loss.F a0_0 a0_1).bind fun t301 => (if t301 = 0 then ((hushref1_Power.F a0_0 a0_1 a1).bind fun bt302 => (some (bt302.1, bt302.2.1, bt302.2.2))) else (some (0, 0, t301))) := by
 refine LimIs.out (?_ : LimIs (fun k => (hushref6_Loss.f k a0_0 a0_1).bind fun t301 => (if t301 = 0 then ((hushref1_Power.f k a0_0 a0_1 a1).bind fun bt302 => (some (bt302.1, bt302.2.1, bt302.2.2))) else (some (0, 0, t301)))) _)
 repeat' first
  | (with_reducible exact hushref6_Loss.F_is _ _)
  | (with_reducible exact hushref1_Power.F_is _ _ _)
  | (with_reducible exact LimIs.const _)
  | (with_reducible refine LimIs.ite ?_ ?_)
  | (with_reducible refine LimIs.bind ?_ (fun _ => ?_))
  | exact hushref6_Loss.F_is _ _
  | exact hushref1_Power.F_is _ _ _
  | exact LimIs.const _
  | refine LimIs.ite ?_ ?_
  | refine LimIs.bind ?_ (fun _ => ?_)
end Go.Proofs.Ytjbgnlhgjgnclaa.PB
end
section
namespace Go.Proofs.Ytjbgnlhgjgnclaa.PB
open Go.RowKit Go.Proofs.YtjbgnlhgjgnclaaW.PrintWords Go.Proofs.YtjbgnlhgjgnclaaW.PrintLast Go.Proofs.YtjbgnlhgjgnclaaW.PrintMore
open Go.Proofs.YtjbgnlhgjgnclaaW.EvKit
set_option linter.unusedVariables false
end Go.Proofs.Ytjbgnlhgjgnclaa.PB
end
section
namespace Go.Proofs.Ytjbgnlhgjgnclaa.PB
open Go.RowKit Go.Proofs.YtjbgnlhgjgnclaaW.PrintWords Go.Proofs.YtjbgnlhgjgnclaaW.PrintLast Go.Proofs.YtjbgnlhgjgnclaaW.PrintMore
open Go.Proofs.YtjbgnlhgjgnclaaW.EvKit
set_option linter.unusedVariables false
noncomputable def hushlaw6_NoiseKeeps.J0 (x1 : Int) (x2 : Int) (x3 : Int) (x4 : Int) (x11 : List (S64)) (x13 : List (S64)) (x49 : Bool) (x409000 : Int) (x409001 : Int) : Option (Bool) := lim (fun k => hushlaw6_NoiseKeeps.j0 k x1 x2 x3 x4 x11 x13 x49 x409000 x409001)
theorem hushlaw6_NoiseKeeps.J0_is (x1 : Int) (x2 : Int) (x3 : Int) (x4 : Int) (x11 : List (S64)) (x13 : List (S64)) (x49 : Bool) (x409000 : Int) (x409001 : Int) : LimIs (fun k => hushlaw6_NoiseKeeps.j0 k x1 x2 x3 x4 x11 x13 x49 x409000 x409001) (hushlaw6_NoiseKeeps.J0 x1 x2 x3 x4 x11 x13 x49 x409000 x409001) := ⟨fun k => (hushlaw6_NoiseKeeps.mono_l k).1 x1 x2 x3 x4 x11 x13 x49 x409000 x409001, rfl⟩
noncomputable def hushlaw6_NoiseKeeps.J1 (x3 : Int) (x4 : Int) (x11 : List (S64)) (x13 : List (S64)) (x70 : Bool) (x409000 : Int) (x409001 : Int) : Option (Bool) := lim (fun k => hushlaw6_NoiseKeeps.j1 k x3 x4 x11 x13 x70 x409000 x409001)
theorem hushlaw6_NoiseKeeps.J1_is (x3 : Int) (x4 : Int) (x11 : List (S64)) (x13 : List (S64)) (x70 : Bool) (x409000 : Int) (x409001 : Int) : LimIs (fun k => hushlaw6_NoiseKeeps.j1 k x3 x4 x11 x13 x70 x409000 x409001) (hushlaw6_NoiseKeeps.J1 x3 x4 x11 x13 x70 x409000 x409001) := ⟨fun k => (hushlaw6_NoiseKeeps.mono_l k).2 x3 x4 x11 x13 x70 x409000 x409001, rfl⟩
noncomputable def hushlaw6_NoiseKeeps.F (a0_0 : Int) (a0_1 : Int) (a1 : Int) (a2 : Int) (a3 : Int) (a4 : Int) : Option (Bool) := lim (fun k => hushlaw6_NoiseKeeps.f k a0_0 a0_1 a1 a2 a3 a4)
theorem hushlaw6_NoiseKeeps.F_is (a0_0 : Int) (a0_1 : Int) (a1 : Int) (a2 : Int) (a3 : Int) (a4 : Int) : LimIs (fun k => hushlaw6_NoiseKeeps.f k a0_0 a0_1 a1 a2 a3 a4) (hushlaw6_NoiseKeeps.F a0_0 a0_1 a1 a2 a3 a4) := ⟨fun k => hushlaw6_NoiseKeeps.mono a0_0 a0_1 a1 a2 a3 a4 k, rfl⟩
set_option maxRecDepth 100000 in
theorem hushlaw6_NoiseKeeps.J0_eq (x1 : Int) (x2 : Int) (x3 : Int) (x4 : Int) (x11 : List (S64)) (x13 : List (S64)) (x49 : Bool) (x409000 : Int) (x409001 : Int) : hushlaw6_NoiseKeeps.J0 x1 x2 x3 x4 x11 x13 x49 x409000 x409001 = if x49 = true then ((hushref2_Same.F x11 x13).bind fun t418 => (some t418)) else (if x3 < x1 then (hushlaw6_NoiseKeeps.J1 x3 x4 x11 x13 true x409000 x409001) else (if x4 < x1 then (hushlaw6_NoiseKeeps.J1 x3 x4 x11 x13 true x409000 x409001) else (if x3 > x2 then (hushlaw6_NoiseKeeps.J1 x3 x4 x11 x13 true x409000 x409001) else (hushlaw6_NoiseKeeps.J1 x3 x4 x11 x13 (decide (x4 > x2)) x409000 x409001)))) := by
 refine LimIs.step' (hushlaw6_NoiseKeeps.J0_is x1 x2 x3 x4 x11 x13 x49 x409000 x409001).1 (b := fun k => if x49 = true then ((hushref2_Same.f k x11 x13).bind fun t418 => (some t418)) else (if x3 < x1 then (hushlaw6_NoiseKeeps.j1 k x3 x4 x11 x13 true x409000 x409001) else (if x4 < x1 then (hushlaw6_NoiseKeeps.j1 k x3 x4 x11 x13 true x409000 x409001) else (if x3 > x2 then (hushlaw6_NoiseKeeps.j1 k x3 x4 x11 x13 true x409000 x409001) else (hushlaw6_NoiseKeeps.j1 k x3 x4 x11 x13 (decide (x4 > x2)) x409000 x409001))))) (fun k => by first | rfl | rw [hushlaw6_NoiseKeeps.j0]) ?_
 repeat' first
  | (with_reducible exact hushref2_Same.F_is _ _)
  | (with_reducible exact hushlaw6_NoiseKeeps.J1_is _ _ _ _ _ _ _)
  | (with_reducible exact LimIs.const _)
  | (with_reducible refine LimIs.ite ?_ ?_)
  | (with_reducible refine LimIs.bind ?_ (fun _ => ?_))
  | exact hushref2_Same.F_is _ _
  | exact hushlaw6_NoiseKeeps.J1_is _ _ _ _ _ _ _
  | exact LimIs.const _
  | refine LimIs.ite ?_ ?_
  | refine LimIs.bind ?_ (fun _ => ?_)
set_option maxRecDepth 100000 in
theorem hushlaw6_NoiseKeeps.J1_eq (x3 : Int) (x4 : Int) (x11 : List (S64)) (x13 : List (S64)) (x70 : Bool) (x409000 : Int) (x409001 : Int) : hushlaw6_NoiseKeeps.J1 x3 x4 x11 x13 x70 x409000 x409001 = if x70 = true then (some true) else (if (wrap64 (x3 - x4)) < 0 then ((hushref1_Power.F x409000 x409001 (wrap64 (-(wrap64 (x3 - x4))))).bind fun bt419 => ((dist_Far.F x11 x13).bind fun bt423 => (if bt419.2.2 = bt423.2.2 then (some (bt423.1 == bt419.1 && (bt423.2.1 == bt419.2.1))) else (some false)))) else ((hushref1_Power.F x409000 x409001 (wrap64 (x3 - x4))).bind fun bt427 => ((dist_Far.F x11 x13).bind fun bt431 => (if bt427.2.2 = bt431.2.2 then (some (bt431.1 == bt427.1 && (bt431.2.1 == bt427.2.1))) else (some false))))) := by
 refine LimIs.step' (hushlaw6_NoiseKeeps.J1_is x3 x4 x11 x13 x70 x409000 x409001).1 (b := fun k => if x70 = true then (some true) else (if (wrap64 (x3 - x4)) < 0 then ((hushref1_Power.f k x409000 x409001 (wrap64 (-(wrap64 (x3 - x4))))).bind fun bt419 => ((dist_Far.f k x11 x13).bind fun bt423 => (if bt419.2.2 = bt423.2.2 then (some (bt423.1 == bt419.1 && (bt423.2.1 == bt419.2.1))) else (some false)))) else ((hushref1_Power.f k x409000 x409001 (wrap64 (x3 - x4))).bind fun bt427 => ((dist_Far.f k x11 x13).bind fun bt431 => (if bt427.2.2 = bt431.2.2 then (some (bt431.1 == bt427.1 && (bt431.2.1 == bt427.2.1))) else (some false)))))) (fun k => by first | rfl | rw [hushlaw6_NoiseKeeps.j1]) ?_
 repeat' first
  | (with_reducible exact hushref1_Power.F_is _ _ _)
  | (with_reducible exact dist_Far.F_is _ _)
  | (with_reducible exact LimIs.const _)
  | (with_reducible refine LimIs.ite ?_ ?_)
  | (with_reducible refine LimIs.bind ?_ (fun _ => ?_))
  | exact hushref1_Power.F_is _ _ _
  | exact dist_Far.F_is _ _
  | exact LimIs.const _
  | refine LimIs.ite ?_ ?_
  | refine LimIs.bind ?_ (fun _ => ?_)
set_option maxRecDepth 100000 in
theorem hushlaw6_NoiseKeeps.F_eq (a0_0 : Int) (a0_1 : Int) (a1 : Int) (a2 : Int) (a3 : Int) (a4 : Int) : hushlaw6_NoiseKeeps.F a0_0 a0_1 a1 a2 a3 a4 = (hushlaw6_alive.F).bind fun t409 => (if t409 = true then ((noise_Hide.F a0_0 a0_1 a1 a2 a3).bind fun bt410 => (if bt410.2 = 0 then ((noise_Hide.F a0_0 a0_1 a1 a2 a4).bind fun bt414 => (if bt414.2 = 0 then (if a0_0 = a0_1 then (hushlaw6_NoiseKeeps.J0 a1 a2 a3 a4 bt410.1 bt414.1 true a0_0 a0_1) else (hushlaw6_NoiseKeeps.J0 a1 a2 a3 a4 bt410.1 bt414.1 (a1 == a2) a0_0 a0_1)) else (some false))) else (some true))) else (some false)) := by
 refine LimIs.out (?_ : LimIs (fun k => (hushlaw6_alive.f k).bind fun t409 => (if t409 = true then ((noise_Hide.f k a0_0 a0_1 a1 a2 a3).bind fun bt410 => (if bt410.2 = 0 then ((noise_Hide.f k a0_0 a0_1 a1 a2 a4).bind fun bt414 => (if bt414.2 = 0 then (if a0_0 = a0_1 then (hushlaw6_NoiseKeeps.j0 k a1 a2 a3 a4 bt410.1 bt414.1 true a0_0 a0_1) else (hushlaw6_NoiseKeeps.j0 k a1 a2 a3 a4 bt410.1 bt414.1 (a1 == a2) a0_0 a0_1)) else (some false))) else (some true))) else (some false))) _)
 repeat' first
  | (with_reducible exact hushlaw6_alive.F_is)
  | (with_reducible exact noise_Hide.F_is _ _ _ _ _)
  | (with_reducible exact hushlaw6_NoiseKeeps.J0_is _ _ _ _ _ _ _ _ _)
  | (with_reducible exact LimIs.const _)
  | (with_reducible refine LimIs.ite ?_ ?_)
  | (with_reducible refine LimIs.bind ?_ (fun _ => ?_))
  | exact hushlaw6_alive.F_is
  | exact noise_Hide.F_is _ _ _ _ _
  | exact hushlaw6_NoiseKeeps.J0_is _ _ _ _ _ _ _ _ _
  | exact LimIs.const _
  | refine LimIs.ite ?_ ?_
  | refine LimIs.bind ?_ (fun _ => ?_)
end Go.Proofs.Ytjbgnlhgjgnclaa.PB
end

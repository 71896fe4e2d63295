/- The pure texts of this claim, its functions behind all rounds among them, and small steps. Conditions stand in each theorem. -/
import Derived.Test.YtdfeidpkdbleaaaPCx21
import Derived.Test.YtdfeidpkdbleaaaLim
import Derived.Test.YtdfeidpkdbleaaaPCx0
import Derived.Test.YtdfeidpkdbleaaaPCx7
import Derived.Test.YtdfeidpkdbleaaaPCx10
import Derived.Test.YtdfeidpkdbleaaaPCx9
import Derived.Test.YtdfeidpkdbleaaaPCx1
import Derived.Test.YtdfeidpkdbleaaaPCx13d
import Derived.Test.YtdfeidpkdbleaaaPCx11
import Derived.Test.YtdfeidpkdbleaaaPCx12
import Derived.Test.YtdfeidpkdbleaaaPCx16
import Derived.Test.YtdfeidpkdbleaaaPCx14
import Derived.Test.YtdfeidpkdbleaaaPCx15
import Derived.Test.YtdfeidpkdbleaaaPCx18
import Derived.Test.YtdfeidpkdbleaaaPCx17
import Derived.Test.YtdfeidpkdbleaaaPCx19
import Derived.Test.YtdfeidpkdbleaaaPCx20
import Derived.Laws.Strings
import Derived.Laws.BitsLemmas
import Derived.Lib.Strings
section
namespace Go.Proofs.Ytdfeidpkdbleaaa.PC
open Go.RowKit Go.Proofs.YtdfeidpkdbleaaaW.PrintWords Go.Proofs.YtdfeidpkdbleaaaW.PrintLast Go.Proofs.YtdfeidpkdbleaaaW.PrintMore
open Go.Proofs.YtdfeidpkdbleaaaW.EvKit
set_option linter.unusedVariables false
end Go.Proofs.Ytdfeidpkdbleaaa.PC
end
section
namespace Go.Proofs.Ytdfeidpkdbleaaa.PC
open Go.RowKit Go.Proofs.YtdfeidpkdbleaaaW.PrintWords Go.Proofs.YtdfeidpkdbleaaaW.PrintLast Go.Proofs.YtdfeidpkdbleaaaW.PrintMore
open Go.Proofs.YtdfeidpkdbleaaaW.EvKit
set_option linter.unusedVariables false
end Go.Proofs.Ytdfeidpkdbleaaa.PC
end
section
namespace Go.Proofs.Ytdfeidpkdbleaaa.PC
open Go.RowKit Go.Proofs.YtdfeidpkdbleaaaW.PrintWords Go.Proofs.YtdfeidpkdbleaaaW.PrintLast Go.Proofs.YtdfeidpkdbleaaaW.PrintMore
open Go.Proofs.YtdfeidpkdbleaaaW.EvKit
set_option linter.unusedVariables false
end Go.Proofs.Ytdfeidpkdbleaaa.PC
end
section
namespace Go.Proofs.Ytdfeidpkdbleaaa.PC
open Go.RowKit Go.Proofs.YtdfeidpkdbleaaaW.PrintWords Go.Proofs.YtdfeidpkdbleaaaW.PrintLast Go.Proofs.YtdfeidpkdbleaaaW.PrintMore
open Go.Proofs.YtdfeidpkdbleaaaW.EvKit
set_option linter.unusedVariables false
end Go.Proofs.Ytdfeidpkdbleaaa.PC
end
section
namespace Go.Proofs.Ytdfeidpkdbleaaa.PC
open Go.RowKit Go.Proofs.YtdfeidpkdbleaaaW.PrintWords Go.Proofs.YtdfeidpkdbleaaaW.PrintLast Go.Proofs.YtdfeidpkdbleaaaW.PrintMore
open Go.Proofs.YtdfeidpkdbleaaaW.EvKit
set_option linter.unusedVariables false
end Go.Proofs.Ytdfeidpkdbleaaa.PC
end
section
namespace Go.Proofs.Ytdfeidpkdbleaaa.PC
open Go.RowKit Go.Proofs.YtdfeidpkdbleaaaW.PrintWords Go.Proofs.YtdfeidpkdbleaaaW.PrintLast Go.Proofs.YtdfeidpkdbleaaaW.PrintMore
open Go.Proofs.YtdfeidpkdbleaaaW.EvKit
set_option linter.unusedVariables false
noncomputable def hushref16_Count.F (a0 : Int) : Option (ByteArray) := lim (fun k => hushref16_Count.f k a0)
theorem hushref16_Count.F_is (a0 : Int) : LimIs (fun k => hushref16_Count.f k a0) (hushref16_Count.F a0) := ⟨fun k => hushref16_Count.mono a0 k, rfl⟩
noncomputable def hushref16_text.F (a0 : ByteArray) : Option ByteArray := lim (fun k => hushref16_text.f k a0)
theorem hushref16_text.F_is (a0 : ByteArray) : LimIs (fun k => hushref16_text.f k a0) (hushref16_text.F a0) := ⟨fun k => hushref16_text.mono a0 k, rfl⟩
set_option maxRecDepth 100000 in
theorem hushref16_Count.F_eq (a0 : Int) : hushref16_Count.F a0 = if a0 < 128 then (some (strOfNums (([(a0) % 256] : List Int)))) else ((some (([(IntKind.u64.wrap (128 + (Int.tmod a0 128))) % 256] : List Int) : List Int)).bind fun y174 => ((hushref16_Count.F (IntKind.u64.wrap (Int.tdiv a0 128))).bind fun t177 => (if (strOfNums y174).size + t177.size ≤ 9223372036854775807 then (some ((strOfNums y174) ++ t177)) else (none)))) := by
  refine LimIs.step' (hushref16_Count.F_is a0).1 (b := fun k => if a0 < 128 then (some (strOfNums (([(a0) % 256] : List Int)))) else ((some (([(IntKind.u64.wrap (128 + (Int.tmod a0 128))) % 256] : List Int) : List Int)).bind fun y174 => ((hushref16_Count.f k (IntKind.u64.wrap (Int.tdiv a0 128))).bind fun t177 => (if (strOfNums y174).size + t177.size ≤ 9223372036854775807 then (some ((strOfNums y174) ++ t177)) else (none))))) (fun k => by first | rfl | rw [hushref16_Count.f]) ?_
  repeat' first
    | (with_reducible exact hushref16_Count.F_is _)
    | (with_reducible exact LimIs.const _)
    | (with_reducible refine LimIs.ite ?_ ?_)
    | (with_reducible refine LimIs.bind ?_ (fun _ => ?_))
    | exact hushref16_Count.F_is _
    | exact LimIs.const _
    | refine LimIs.ite ?_ ?_
    | refine LimIs.bind ?_ (fun _ => ?_)
set_option maxRecDepth 100000 in
theorem hushref16_text.F_eq (a0 : ByteArray) : hushref16_text.F a0 = if a0.size ≤ 140737488351232 then (hushref16_Count.F (a0.size : Int)).bind fun t => if t.size + a0.size ≤ 9223372036854775807 then some (t ++ a0) else none else none := by
  refine LimIs.out (?_ : LimIs (fun k => if a0.size ≤ 140737488351232 then (hushref16_Count.f k (a0.size : Int)).bind fun t => if t.size + a0.size ≤ 9223372036854775807 then some (t ++ a0) else none else none) _)
  repeat' first
    | (with_reducible exact hushref16_Count.F_is _)
    | (with_reducible exact LimIs.const _)
    | (with_reducible refine LimIs.ite ?_ ?_)
    | (with_reducible refine LimIs.bind ?_ (fun _ => ?_))
    | exact hushref16_Count.F_is _
    | exact LimIs.const _
    | refine LimIs.ite ?_ ?_
    | refine LimIs.bind ?_ (fun _ => ?_)
end Go.Proofs.Ytdfeidpkdbleaaa.PC
end
section
namespace Go.Proofs.Ytdfeidpkdbleaaa.PC
open Go.RowKit Go.Proofs.YtdfeidpkdbleaaaW.PrintWords Go.Proofs.YtdfeidpkdbleaaaW.PrintLast Go.Proofs.YtdfeidpkdbleaaaW.PrintMore
open Go.Proofs.YtdfeidpkdbleaaaW.EvKit
set_option linter.unusedVariables false
noncomputable def hushref16_Number.F (a0 : Int) : Option (ByteArray) := lim (fun k => hushref16_Number.f k a0)
theorem hushref16_Number.F_is (a0 : Int) : LimIs (fun k => hushref16_Number.f k a0) (hushref16_Number.F a0) := ⟨fun k => hushref16_Number.mono a0 k, rfl⟩
noncomputable def hushref16_ratio.F (a0_0 : Int) (a0_1 : Int) : Option (ByteArray) := lim (fun k => hushref16_ratio.f k a0_0 a0_1)
theorem hushref16_ratio.F_is (a0_0 : Int) (a0_1 : Int) : LimIs (fun k => hushref16_ratio.f k a0_0 a0_1) (hushref16_ratio.F a0_0 a0_1) := ⟨fun k => hushref16_ratio.mono a0_0 a0_1 k, rfl⟩
set_option maxRecDepth 100000 in
theorem hushref16_Number.F_eq (a0 : Int) : hushref16_Number.F a0 = if a0 ≥ 0 then ((hushref16_Count.F (IntKind.u64.wrap (2 * (IntKind.u64.wrap (a0))))).bind fun t178 => (some t178)) else ((hushref16_Count.F (IntKind.u64.wrap ((IntKind.u64.wrap (2 * (IntKind.u64.wrap (wrap64 (-(wrap64 (a0 + 1))))))) + 1))).bind fun t179 => (some t179)) := by
  refine LimIs.out (?_ : LimIs (fun k => if a0 ≥ 0 then ((hushref16_Count.f k (IntKind.u64.wrap (2 * (IntKind.u64.wrap (a0))))).bind fun t178 => (some t178)) else ((hushref16_Count.f k (IntKind.u64.wrap ((IntKind.u64.wrap (2 * (IntKind.u64.wrap (wrap64 (-(wrap64 (a0 + 1))))))) + 1))).bind fun t179 => (some t179))) _)
  repeat' first
    | (with_reducible exact hushref16_Count.F_is _)
    | (with_reducible exact LimIs.const _)
    | (with_reducible refine LimIs.ite ?_ ?_)
    | (with_reducible refine LimIs.bind ?_ (fun _ => ?_))
    | exact hushref16_Count.F_is _
    | exact LimIs.const _
    | refine LimIs.ite ?_ ?_
    | refine LimIs.bind ?_ (fun _ => ?_)
set_option maxRecDepth 100000 in
theorem hushref16_ratio.F_eq (a0_0 : Int) (a0_1 : Int) : hushref16_ratio.F a0_0 a0_1 = (hushref16_Number.F a0_0).bind fun t181 => ((hushref16_Number.F a0_1).bind fun t182 => (if t181.size + t182.size ≤ 9223372036854775807 then (some (t181 ++ t182)) else (none))) := by
  refine LimIs.out (?_ : LimIs (fun k => (hushref16_Number.f k a0_0).bind fun t181 => ((hushref16_Number.f k a0_1).bind fun t182 => (if t181.size + t182.size ≤ 9223372036854775807 then (some (t181 ++ t182)) else (none)))) _)
  repeat' first
    | (with_reducible exact hushref16_Number.F_is _)
    | (with_reducible exact LimIs.const _)
    | (with_reducible refine LimIs.ite ?_ ?_)
    | (with_reducible refine LimIs.bind ?_ (fun _ => ?_))
    | exact hushref16_Number.F_is _
    | exact LimIs.const _
    | refine LimIs.ite ?_ ?_
    | refine LimIs.bind ?_ (fun _ => ?_)
end Go.Proofs.Ytdfeidpkdbleaaa.PC
end
section
namespace Go.Proofs.Ytdfeidpkdbleaaa.PC
open Go.RowKit Go.Proofs.YtdfeidpkdbleaaaW.PrintWords Go.Proofs.YtdfeidpkdbleaaaW.PrintLast Go.Proofs.YtdfeidpkdbleaaaW.PrintMore
open Go.Proofs.YtdfeidpkdbleaaaW.EvKit
set_option linter.unusedVariables false
noncomputable def hushref16_Pack.L0 (x4 : ByteArray) (x59 : List Int) (x60 : Int) (x61 : Int) (x184000 : Int) (x184001 : ByteArray) (x184002 : Int) (x184003 : ByteArray) (x184004 : ByteArray) (x184005 : Int) (x184006 : Int) (x184007 : Int) (x184008 : Int) (x184009 : Int) (x184010 : List Int) (x184011 : Int) (x184012 : Int) : Option (ByteArray × Int) := lim (fun k => hushref16_Pack.l0 k x4 x59 x60 x61 x184000 x184001 x184002 x184003 x184004 x184005 x184006 x184007 x184008 x184009 x184010 x184011 x184012)
theorem hushref16_Pack.L0_is (x4 : ByteArray) (x59 : List Int) (x60 : Int) (x61 : Int) (x184000 : Int) (x184001 : ByteArray) (x184002 : Int) (x184003 : ByteArray) (x184004 : ByteArray) (x184005 : Int) (x184006 : Int) (x184007 : Int) (x184008 : Int) (x184009 : Int) (x184010 : List Int) (x184011 : Int) (x184012 : Int) : LimIs (fun k => hushref16_Pack.l0 k x4 x59 x60 x61 x184000 x184001 x184002 x184003 x184004 x184005 x184006 x184007 x184008 x184009 x184010 x184011 x184012) (hushref16_Pack.L0 x4 x59 x60 x61 x184000 x184001 x184002 x184003 x184004 x184005 x184006 x184007 x184008 x184009 x184010 x184011 x184012) := ⟨fun k => (hushref16_Pack.mono_l k) x4 x59 x60 x61 x184000 x184001 x184002 x184003 x184004 x184005 x184006 x184007 x184008 x184009 x184010 x184011 x184012, rfl⟩
noncomputable def hushref16_Pack.F (a0_0 : Int) (a0_1 : ByteArray) (a0_2 : Int) (a0_3 : ByteArray) (a0_4 : ByteArray) (a0_5 : Int) (a0_6 : Int) (a0_7 : Int) (a0_8 : Int) (a0_9 : Int) (l0_10 : List Int) (a0_11 : Int) (a0_12 : Int) : Option (ByteArray × Int) := lim (fun k => hushref16_Pack.f k a0_0 a0_1 a0_2 a0_3 a0_4 a0_5 a0_6 a0_7 a0_8 a0_9 l0_10 a0_11 a0_12)
theorem hushref16_Pack.F_is (a0_0 : Int) (a0_1 : ByteArray) (a0_2 : Int) (a0_3 : ByteArray) (a0_4 : ByteArray) (a0_5 : Int) (a0_6 : Int) (a0_7 : Int) (a0_8 : Int) (a0_9 : Int) (l0_10 : List Int) (a0_11 : Int) (a0_12 : Int) : LimIs (fun k => hushref16_Pack.f k a0_0 a0_1 a0_2 a0_3 a0_4 a0_5 a0_6 a0_7 a0_8 a0_9 l0_10 a0_11 a0_12) (hushref16_Pack.F a0_0 a0_1 a0_2 a0_3 a0_4 a0_5 a0_6 a0_7 a0_8 a0_9 l0_10 a0_11 a0_12) := ⟨fun k => hushref16_Pack.mono a0_0 a0_1 a0_2 a0_3 a0_4 a0_5 a0_6 a0_7 a0_8 a0_9 l0_10 a0_11 a0_12 k, rfl⟩
set_option maxRecDepth 100000 in
theorem hushref16_Pack.L0_eq (x4 : ByteArray) (x59 : List Int) (x60 : Int) (x61 : Int) (x184000 : Int) (x184001 : ByteArray) (x184002 : Int) (x184003 : ByteArray) (x184004 : ByteArray) (x184005 : Int) (x184006 : Int) (x184007 : Int) (x184008 : Int) (x184009 : Int) (x184010 : List Int) (x184011 : Int) (x184012 : Int) : hushref16_Pack.L0 x4 x59 x60 x61 x184000 x184001 x184002 x184003 x184004 x184005 x184006 x184007 x184008 x184009 x184010 x184011 x184012 = if x61 < x60 then (if 0 ≤ x61 then (if x61 < (x59.length : Int) then ((hushref16_Number.F (rd x59 x61)).bind fun t198 => (if x4.size + t198.size ≤ 9223372036854775807 then (hushref16_Pack.L0 (x4 ++ t198) x59 x60 (wrap64 (x61 + 1)) x184000 x184001 x184002 x184003 x184004 x184005 x184006 x184007 x184008 x184009 x184010 x184011 x184012) else (none))) else (none)) else (none)) else ((hushref16_ratio.F x184011 x184012).bind fun t199 => (if x4.size + t199.size ≤ 9223372036854775807 then (if ((x4 ++ t199).size : Int) > 65536 then (some ((⟨#[]⟩ : ByteArray), 4)) else (some (x4 ++ t199, 0))) else (none))) := by
  refine LimIs.step' (hushref16_Pack.L0_is x4 x59 x60 x61 x184000 x184001 x184002 x184003 x184004 x184005 x184006 x184007 x184008 x184009 x184010 x184011 x184012).1 (b := fun k => if x61 < x60 then (if 0 ≤ x61 then (if x61 < (x59.length : Int) then ((hushref16_Number.f k (rd x59 x61)).bind fun t198 => (if x4.size + t198.size ≤ 9223372036854775807 then (hushref16_Pack.l0 k (x4 ++ t198) x59 x60 (wrap64 (x61 + 1)) x184000 x184001 x184002 x184003 x184004 x184005 x184006 x184007 x184008 x184009 x184010 x184011 x184012) else (none))) else (none)) else (none)) else ((hushref16_ratio.f k x184011 x184012).bind fun t199 => (if x4.size + t199.size ≤ 9223372036854775807 then (if ((x4 ++ t199).size : Int) > 65536 then (some ((⟨#[]⟩ : ByteArray), 4)) else (some (x4 ++ t199, 0))) else (none)))) (fun k => by first | rfl | rw [hushref16_Pack.l0]) ?_
  repeat' first
    | (with_reducible exact hushref16_Number.F_is _)
    | (with_reducible exact hushref16_Pack.L0_is _ _ _ _ _ _ _ _ _ _ _ _ _ _ _ _ _)
    | (with_reducible exact hushref16_ratio.F_is _ _)
    | (with_reducible exact LimIs.const _)
    | (with_reducible refine LimIs.ite ?_ ?_)
    | (with_reducible refine LimIs.bind ?_ (fun _ => ?_))
    | exact hushref16_Number.F_is _
    | exact hushref16_Pack.L0_is _ _ _ _ _ _ _ _ _ _ _ _ _ _ _ _ _
    | exact hushref16_ratio.F_is _ _
    | exact LimIs.const _
    | refine LimIs.ite ?_ ?_
    | refine LimIs.bind ?_ (fun _ => ?_)
set_option maxRecDepth 100000 in
theorem hushref16_Pack.F_eq (a0_0 : Int) (a0_1 : ByteArray) (a0_2 : Int) (a0_3 : ByteArray) (a0_4 : ByteArray) (a0_5 : Int) (a0_6 : Int) (a0_7 : Int) (a0_8 : Int) (a0_9 : Int) (l0_10 : List Int) (a0_11 : Int) (a0_12 : Int) : hushref16_Pack.F a0_0 a0_1 a0_2 a0_3 a0_4 a0_5 a0_6 a0_7 a0_8 a0_9 l0_10 a0_11 a0_12 = (hushref16_Clean.f a0_0 a0_1 a0_2 a0_3 a0_4 a0_5 a0_6 a0_7 a0_8 a0_9 l0_10 a0_11 a0_12).bind fun t184 => (if t184 = true then ((some (([(a0_0) % 256] : List Int) : List Int)).bind fun y185 => ((hushref16_text.F a0_1).bind fun t188 => (if (strOfNums y185).size + t188.size ≤ 9223372036854775807 then ((hushref16_Number.F a0_2).bind fun t189 => (if ((strOfNums y185) ++ t188).size + t189.size ≤ 9223372036854775807 then (if a0_0 = 1 then ((hushref16_text.F a0_3).bind fun t190 => (if (((strOfNums y185) ++ t188) ++ t189).size + t190.size ≤ 9223372036854775807 then ((hushref16_text.F a0_4).bind fun t191 => (if ((((strOfNums y185) ++ t188) ++ t189) ++ t190).size + t191.size ≤ 9223372036854775807 then ((hushref16_ratio.F a0_5 a0_6).bind fun t192 => (if (((((strOfNums y185) ++ t188) ++ t189) ++ t190) ++ t191).size + t192.size ≤ 9223372036854775807 then ((hushref16_Number.F a0_7).bind fun t193 => (if ((((((strOfNums y185) ++ t188) ++ t189) ++ t190) ++ t191) ++ t192).size + t193.size ≤ 9223372036854775807 then ((hushref16_Number.F a0_8).bind fun t194 => (if (((((((strOfNums y185) ++ t188) ++ t189) ++ t190) ++ t191) ++ t192) ++ t193).size + t194.size ≤ 9223372036854775807 then (if (((((((((strOfNums y185) ++ t188) ++ t189) ++ t190) ++ t191) ++ t192) ++ t193) ++ t194).size : Int) > 65536 then (some ((⟨#[]⟩ : ByteArray), 4)) else (some ((((((((strOfNums y185) ++ t188) ++ t189) ++ t190) ++ t191) ++ t192) ++ t193) ++ t194, 0))) else (none))) else (none))) else (none))) else (none))) else (none))) else ((hushref16_Number.F a0_9).bind fun t195 => (if (((strOfNums y185) ++ t188) ++ t189).size + t195.size ≤ 9223372036854775807 then ((hushref16_Count.F (IntKind.u64.wrap ((l0_10.length : Int)))).bind fun t196 => (if ((((strOfNums y185) ++ t188) ++ t189) ++ t195).size + t196.size ≤ 9223372036854775807 then (hushref16_Pack.L0 (((((strOfNums y185) ++ t188) ++ t189) ++ t195) ++ t196) l0_10 (l0_10.length : Int) 0 a0_0 a0_1 a0_2 a0_3 a0_4 a0_5 a0_6 a0_7 a0_8 a0_9 l0_10 a0_11 a0_12) else (none))) else (none)))) else (none))) else (none)))) else (some ((⟨#[]⟩ : ByteArray), 2))) := by
  refine LimIs.out (?_ : LimIs (fun k => (hushref16_Clean.f a0_0 a0_1 a0_2 a0_3 a0_4 a0_5 a0_6 a0_7 a0_8 a0_9 l0_10 a0_11 a0_12).bind fun t184 => (if t184 = true then ((some (([(a0_0) % 256] : List Int) : List Int)).bind fun y185 => ((hushref16_text.f k a0_1).bind fun t188 => (if (strOfNums y185).size + t188.size ≤ 9223372036854775807 then ((hushref16_Number.f k a0_2).bind fun t189 => (if ((strOfNums y185) ++ t188).size + t189.size ≤ 9223372036854775807 then (if a0_0 = 1 then ((hushref16_text.f k a0_3).bind fun t190 => (if (((strOfNums y185) ++ t188) ++ t189).size + t190.size ≤ 9223372036854775807 then ((hushref16_text.f k a0_4).bind fun t191 => (if ((((strOfNums y185) ++ t188) ++ t189) ++ t190).size + t191.size ≤ 9223372036854775807 then ((hushref16_ratio.f k a0_5 a0_6).bind fun t192 => (if (((((strOfNums y185) ++ t188) ++ t189) ++ t190) ++ t191).size + t192.size ≤ 9223372036854775807 then ((hushref16_Number.f k a0_7).bind fun t193 => (if ((((((strOfNums y185) ++ t188) ++ t189) ++ t190) ++ t191) ++ t192).size + t193.size ≤ 9223372036854775807 then ((hushref16_Number.f k a0_8).bind fun t194 => (if (((((((strOfNums y185) ++ t188) ++ t189) ++ t190) ++ t191) ++ t192) ++ t193).size + t194.size ≤ 9223372036854775807 then (if (((((((((strOfNums y185) ++ t188) ++ t189) ++ t190) ++ t191) ++ t192) ++ t193) ++ t194).size : Int) > 65536 then (some ((⟨#[]⟩ : ByteArray), 4)) else (some ((((((((strOfNums y185) ++ t188) ++ t189) ++ t190) ++ t191) ++ t192) ++ t193) ++ t194, 0))) else (none))) else (none))) else (none))) else (none))) else (none))) else ((hushref16_Number.f k a0_9).bind fun t195 => (if (((strOfNums y185) ++ t188) ++ t189).size + t195.size ≤ 9223372036854775807 then ((hushref16_Count.f k (IntKind.u64.wrap ((l0_10.length : Int)))).bind fun t196 => (if ((((strOfNums y185) ++ t188) ++ t189) ++ t195).size + t196.size ≤ 9223372036854775807 then (hushref16_Pack.l0 k (((((strOfNums y185) ++ t188) ++ t189) ++ t195) ++ t196) l0_10 (l0_10.length : Int) 0 a0_0 a0_1 a0_2 a0_3 a0_4 a0_5 a0_6 a0_7 a0_8 a0_9 l0_10 a0_11 a0_12) else (none))) else (none)))) else (none))) else (none)))) else (some ((⟨#[]⟩ : ByteArray), 2)))) _)
  repeat' first
    | (with_reducible exact hushref16_text.F_is _)
    | (with_reducible exact hushref16_Number.F_is _)
    | (with_reducible exact hushref16_ratio.F_is _ _)
    | (with_reducible exact hushref16_Count.F_is _)
    | (with_reducible exact hushref16_Pack.L0_is _ _ _ _ _ _ _ _ _ _ _ _ _ _ _ _ _)
    | (with_reducible exact LimIs.const _)
    | (with_reducible refine LimIs.ite ?_ ?_)
    | (with_reducible refine LimIs.bind ?_ (fun _ => ?_))
    | exact hushref16_text.F_is _
    | exact hushref16_Number.F_is _
    | exact hushref16_ratio.F_is _ _
    | exact hushref16_Count.F_is _
    | exact hushref16_Pack.L0_is _ _ _ _ _ _ _ _ _ _ _ _ _ _ _ _ _
    | exact LimIs.const _
    | refine LimIs.ite ?_ ?_
    | refine LimIs.bind ?_ (fun _ => ?_)
end Go.Proofs.Ytdfeidpkdbleaaa.PC
end
section
namespace Go.Proofs.Ytdfeidpkdbleaaa.PC
open Go.RowKit Go.Proofs.YtdfeidpkdbleaaaW.PrintWords Go.Proofs.YtdfeidpkdbleaaaW.PrintLast Go.Proofs.YtdfeidpkdbleaaaW.PrintMore
open Go.Proofs.YtdfeidpkdbleaaaW.EvKit
set_option linter.unusedVariables false
noncomputable def wire_unpacker_count.L0 (x3 : Int) (x4 : Int) (x1000 : ByteArray) (x1001 : Bool) : Option (Int × ByteArray × Bool) := lim (fun k => wire_unpacker_count.l0 k x3 x4 x1000 x1001)
theorem wire_unpacker_count.L0_is (x3 : Int) (x4 : Int) (x1000 : ByteArray) (x1001 : Bool) : LimIs (fun k => wire_unpacker_count.l0 k x3 x4 x1000 x1001) (wire_unpacker_count.L0 x3 x4 x1000 x1001) := ⟨fun k => (wire_unpacker_count.mono_l k).1 x3 x4 x1000 x1001, rfl⟩
noncomputable def wire_unpacker_count.J1 (x3 : Int) (x4 : Int) (x5 : Int) (x21 : Bool) (x1000 : ByteArray) (x1001 : Bool) : Option (Int × ByteArray × Bool) := lim (fun k => wire_unpacker_count.j1 k x3 x4 x5 x21 x1000 x1001)
theorem wire_unpacker_count.J1_is (x3 : Int) (x4 : Int) (x5 : Int) (x21 : Bool) (x1000 : ByteArray) (x1001 : Bool) : LimIs (fun k => wire_unpacker_count.j1 k x3 x4 x5 x21 x1000 x1001) (wire_unpacker_count.J1 x3 x4 x5 x21 x1000 x1001) := ⟨fun k => (wire_unpacker_count.mono_l k).2 x3 x4 x5 x21 x1000 x1001, rfl⟩
noncomputable def wire_unpacker_count.F (s0_0 : ByteArray) (s0_1 : Bool) : Option (Int × ByteArray × Bool) := lim (fun k => wire_unpacker_count.f k s0_0 s0_1)
theorem wire_unpacker_count.F_is (s0_0 : ByteArray) (s0_1 : Bool) : LimIs (fun k => wire_unpacker_count.f k s0_0 s0_1) (wire_unpacker_count.F s0_0 s0_1) := ⟨fun k => wire_unpacker_count.mono s0_0 s0_1 k, rfl⟩
noncomputable def wire_unpacker_text.F (s0_0 : ByteArray) (s0_1 : Bool) : Option (ByteArray × ByteArray × Bool) := lim (fun k => wire_unpacker_text.f k s0_0 s0_1)
theorem wire_unpacker_text.F_is (s0_0 : ByteArray) (s0_1 : Bool) : LimIs (fun k => wire_unpacker_text.f k s0_0 s0_1) (wire_unpacker_text.F s0_0 s0_1) := ⟨fun k => wire_unpacker_text.mono s0_0 s0_1 k, rfl⟩
set_option maxRecDepth 100000 in
theorem wire_unpacker_count.L0_eq (x3 : Int) (x4 : Int) (x1000 : ByteArray) (x1001 : Bool) : wire_unpacker_count.L0 x3 x4 x1000 x1001 = (wire_unpacker_byte.f x1000 x1001).bind fun bt200 => (if bt200.2.2 = true then (wire_unpacker_count.J1 x3 x4 bt200.1 true bt200.2.1 bt200.2.2) else (if x4 = 63 then (wire_unpacker_count.J1 x3 x4 bt200.1 (decide (bt200.1 > 1)) bt200.2.1 bt200.2.2) else (wire_unpacker_count.J1 x3 x4 bt200.1 false bt200.2.1 bt200.2.2))) := by
  refine LimIs.step' (wire_unpacker_count.L0_is x3 x4 x1000 x1001).1 (b := fun k => (wire_unpacker_byte.f x1000 x1001).bind fun bt200 => (if bt200.2.2 = true then (wire_unpacker_count.j1 k x3 x4 bt200.1 true bt200.2.1 bt200.2.2) else (if x4 = 63 then (wire_unpacker_count.j1 k x3 x4 bt200.1 (decide (bt200.1 > 1)) bt200.2.1 bt200.2.2) else (wire_unpacker_count.j1 k x3 x4 bt200.1 false bt200.2.1 bt200.2.2)))) (fun k => by first | rfl | rw [wire_unpacker_count.l0]) ?_
  repeat' first
    | (with_reducible exact wire_unpacker_count.J1_is _ _ _ _ _ _)
    | (with_reducible exact LimIs.const _)
    | (with_reducible refine LimIs.ite ?_ ?_)
    | (with_reducible refine LimIs.bind ?_ (fun _ => ?_))
    | exact wire_unpacker_count.J1_is _ _ _ _ _ _
    | exact LimIs.const _
    | refine LimIs.ite ?_ ?_
    | refine LimIs.bind ?_ (fun _ => ?_)
set_option maxRecDepth 100000 in
theorem wire_unpacker_count.J1_eq (x3 : Int) (x4 : Int) (x5 : Int) (x21 : Bool) (x1000 : ByteArray) (x1001 : Bool) : wire_unpacker_count.J1 x3 x4 x5 x21 x1000 x1001 = if x21 = true then (some (0, x1000, true)) else (if 0 ≤ x4 then (if x5 < 128 then (if x1001 = true then (some (Go.bits .or .u64 x3 (shl .u64 (IntKind.u64.wrap (Go.bits .and .u8 x5 127)) x4), x1000, true)) else (if x5 = 0 then (some (Go.bits .or .u64 x3 (shl .u64 (IntKind.u64.wrap (Go.bits .and .u8 x5 127)) x4), x1000, decide (x4 > 0))) else (some (Go.bits .or .u64 x3 (shl .u64 (IntKind.u64.wrap (Go.bits .and .u8 x5 127)) x4), x1000, false)))) else (wire_unpacker_count.L0 (Go.bits .or .u64 x3 (shl .u64 (IntKind.u64.wrap (Go.bits .and .u8 x5 127)) x4)) (wrap64 (x4 + 7)) x1000 x1001)) else (none)) := by
  refine LimIs.step' (wire_unpacker_count.J1_is x3 x4 x5 x21 x1000 x1001).1 (b := fun k => if x21 = true then (some (0, x1000, true)) else (if 0 ≤ x4 then (if x5 < 128 then (if x1001 = true then (some (Go.bits .or .u64 x3 (shl .u64 (IntKind.u64.wrap (Go.bits .and .u8 x5 127)) x4), x1000, true)) else (if x5 = 0 then (some (Go.bits .or .u64 x3 (shl .u64 (IntKind.u64.wrap (Go.bits .and .u8 x5 127)) x4), x1000, decide (x4 > 0))) else (some (Go.bits .or .u64 x3 (shl .u64 (IntKind.u64.wrap (Go.bits .and .u8 x5 127)) x4), x1000, false)))) else (wire_unpacker_count.l0 k (Go.bits .or .u64 x3 (shl .u64 (IntKind.u64.wrap (Go.bits .and .u8 x5 127)) x4)) (wrap64 (x4 + 7)) x1000 x1001)) else (none))) (fun k => by first | rfl | rw [wire_unpacker_count.j1]) ?_
  repeat' first
    | (with_reducible exact wire_unpacker_count.L0_is _ _ _ _)
    | (with_reducible exact LimIs.const _)
    | (with_reducible refine LimIs.ite ?_ ?_)
    | (with_reducible refine LimIs.bind ?_ (fun _ => ?_))
    | exact wire_unpacker_count.L0_is _ _ _ _
    | exact LimIs.const _
    | refine LimIs.ite ?_ ?_
    | refine LimIs.bind ?_ (fun _ => ?_)
set_option maxRecDepth 100000 in
theorem wire_unpacker_count.F_eq (s0_0 : ByteArray) (s0_1 : Bool) : wire_unpacker_count.F s0_0 s0_1 = wire_unpacker_count.L0 0 0 s0_0 s0_1 := by
  refine LimIs.out (?_ : LimIs (fun k => wire_unpacker_count.l0 k 0 0 s0_0 s0_1) _)
  repeat' first
    | (with_reducible exact wire_unpacker_count.L0_is _ _ _ _)
    | (with_reducible exact LimIs.const _)
    | (with_reducible refine LimIs.ite ?_ ?_)
    | (with_reducible refine LimIs.bind ?_ (fun _ => ?_))
    | exact wire_unpacker_count.L0_is _ _ _ _
    | exact LimIs.const _
    | refine LimIs.ite ?_ ?_
    | refine LimIs.bind ?_ (fun _ => ?_)
set_option maxRecDepth 100000 in
theorem wire_unpacker_text.F_eq (s0_0 : ByteArray) (s0_1 : Bool) : wire_unpacker_text.F s0_0 s0_1 = (wire_unpacker_count.F s0_0 s0_1).bind fun bt203 => (if bt203.2.2 = true then (some ((⟨#[]⟩ : ByteArray), bt203.2.1, true)) else (if bt203.1 > (IntKind.u64.wrap ((bt203.2.1.size : Int))) then (some ((⟨#[]⟩ : ByteArray), bt203.2.1, true)) else (if 0 ≤ bt203.1 then (if bt203.1 ≤ (bt203.2.1.size : Int) then (some (bt203.2.1.extract 0 (bt203.1 : Int).toNat, bt203.2.1.extract (bt203.1 : Int).toNat bt203.2.1.size, bt203.2.2)) else (none)) else (none)))) := by
  refine LimIs.out (?_ : LimIs (fun k => (wire_unpacker_count.f k s0_0 s0_1).bind fun bt203 => (if bt203.2.2 = true then (some ((⟨#[]⟩ : ByteArray), bt203.2.1, true)) else (if bt203.1 > (IntKind.u64.wrap ((bt203.2.1.size : Int))) then (some ((⟨#[]⟩ : ByteArray), bt203.2.1, true)) else (if 0 ≤ bt203.1 then (if bt203.1 ≤ (bt203.2.1.size : Int) then (some (bt203.2.1.extract 0 (bt203.1 : Int).toNat, bt203.2.1.extract (bt203.1 : Int).toNat bt203.2.1.size, bt203.2.2)) else (none)) else (none))))) _)
  repeat' first
    | (with_reducible exact wire_unpacker_count.F_is _ _)
    | (with_reducible exact LimIs.const _)
    | (with_reducible refine LimIs.ite ?_ ?_)
    | (with_reducible refine LimIs.bind ?_ (fun _ => ?_))
    | exact wire_unpacker_count.F_is _ _
    | exact LimIs.const _
    | refine LimIs.ite ?_ ?_
    | refine LimIs.bind ?_ (fun _ => ?_)
end Go.Proofs.Ytdfeidpkdbleaaa.PC
end
section
namespace Go.Proofs.Ytdfeidpkdbleaaa.PC
open Go.RowKit Go.Proofs.YtdfeidpkdbleaaaW.PrintWords Go.Proofs.YtdfeidpkdbleaaaW.PrintLast Go.Proofs.YtdfeidpkdbleaaaW.PrintMore
open Go.Proofs.YtdfeidpkdbleaaaW.EvKit
set_option linter.unusedVariables false
noncomputable def wire_unpacker_number.F (s0_0 : ByteArray) (s0_1 : Bool) : Option (Int × ByteArray × Bool) := lim (fun k => wire_unpacker_number.f k s0_0 s0_1)
theorem wire_unpacker_number.F_is (s0_0 : ByteArray) (s0_1 : Bool) : LimIs (fun k => wire_unpacker_number.f k s0_0 s0_1) (wire_unpacker_number.F s0_0 s0_1) := ⟨fun k => wire_unpacker_number.mono s0_0 s0_1 k, rfl⟩
noncomputable def wire_unpacker_ratio.F (s0_0 : ByteArray) (s0_1 : Bool) : Option (Int × Int × ByteArray × Bool) := lim (fun k => wire_unpacker_ratio.f k s0_0 s0_1)
theorem wire_unpacker_ratio.F_is (s0_0 : ByteArray) (s0_1 : Bool) : LimIs (fun k => wire_unpacker_ratio.f k s0_0 s0_1) (wire_unpacker_ratio.F s0_0 s0_1) := ⟨fun k => wire_unpacker_ratio.mono s0_0 s0_1 k, rfl⟩
set_option maxRecDepth 100000 in
theorem wire_unpacker_number.F_eq (s0_0 : ByteArray) (s0_1 : Bool) : wire_unpacker_number.F s0_0 s0_1 = (wire_unpacker_count.F s0_0 s0_1).bind fun bt206 => (some (Go.bits .xor .i64 (wrap64 (bt206.1 / 2)) (wrap64 (-(wrap64 (Go.bits .and .u64 bt206.1 1)))), bt206.2.1, bt206.2.2)) := by
  refine LimIs.out (?_ : LimIs (fun k => (wire_unpacker_count.f k s0_0 s0_1).bind fun bt206 => (some (Go.bits .xor .i64 (wrap64 (bt206.1 / 2)) (wrap64 (-(wrap64 (Go.bits .and .u64 bt206.1 1)))), bt206.2.1, bt206.2.2))) _)
  repeat' first
    | (with_reducible exact wire_unpacker_count.F_is _ _)
    | (with_reducible exact LimIs.const _)
    | (with_reducible refine LimIs.ite ?_ ?_)
    | (with_reducible refine LimIs.bind ?_ (fun _ => ?_))
    | exact wire_unpacker_count.F_is _ _
    | exact LimIs.const _
    | refine LimIs.ite ?_ ?_
    | refine LimIs.bind ?_ (fun _ => ?_)
set_option maxRecDepth 100000 in
theorem wire_unpacker_ratio.F_eq (s0_0 : ByteArray) (s0_1 : Bool) : wire_unpacker_ratio.F s0_0 s0_1 = (wire_unpacker_number.F s0_0 s0_1).bind fun bt210 => ((wire_unpacker_number.F bt210.2.1 bt210.2.2).bind fun bt213 => (some (bt210.1, bt213.1, bt213.2.1, bt213.2.2))) := by
  refine LimIs.out (?_ : LimIs (fun k => (wire_unpacker_number.f k s0_0 s0_1).bind fun bt210 => ((wire_unpacker_number.f k bt210.2.1 bt210.2.2).bind fun bt213 => (some (bt210.1, bt213.1, bt213.2.1, bt213.2.2)))) _)
  repeat' first
    | (with_reducible exact wire_unpacker_number.F_is _ _)
    | (with_reducible exact LimIs.const _)
    | (with_reducible refine LimIs.ite ?_ ?_)
    | (with_reducible refine LimIs.bind ?_ (fun _ => ?_))
    | exact wire_unpacker_number.F_is _ _
    | exact LimIs.const _
    | refine LimIs.ite ?_ ?_
    | refine LimIs.bind ?_ (fun _ => ?_)
end Go.Proofs.Ytdfeidpkdbleaaa.PC
end
section
namespace Go.Proofs.Ytdfeidpkdbleaaa.PC
open Go.RowKit Go.Proofs.YtdfeidpkdbleaaaW.PrintWords Go.Proofs.YtdfeidpkdbleaaaW.PrintLast Go.Proofs.YtdfeidpkdbleaaaW.PrintMore
open Go.Proofs.YtdfeidpkdbleaaaW.EvKit
set_option linter.unusedVariables false
noncomputable def wire_Unpack.L0 (x0 : Int) (x1 : ByteArray) (x2 : Bool) (x3 : List Int) : Option (List Int × ByteArray × Bool) := lim (fun k => wire_Unpack.l0 k x0 x1 x2 x3)
theorem wire_Unpack.L0_is (x0 : Int) (x1 : ByteArray) (x2 : Bool) (x3 : List Int) : LimIs (fun k => wire_Unpack.l0 k x0 x1 x2 x3) (wire_Unpack.L0 x0 x1 x2 x3) := ⟨fun k => (wire_Unpack.mono_l k) x0 x1 x2 x3, rfl⟩
noncomputable def wire_Unpack.F (a0 : ByteArray) : Option UnM := lim (fun k => wire_Unpack.f k a0)
theorem wire_Unpack.F_is (a0 : ByteArray) : LimIs (fun k => wire_Unpack.f k a0) (wire_Unpack.F a0) := ⟨fun k => wire_Unpack.mono a0 k, rfl⟩
set_option maxRecDepth 100000 in
theorem wire_Unpack.L0_eq (x0 : Int) (x1 : ByteArray) (x2 : Bool) (x3 : List Int) : wire_Unpack.L0 x0 x1 x2 x3 = if x0 > 0 then (if x2 = true then some (x3, x1, x2) else (wire_unpacker_number.F x1 x2).bind fun z => if x3.length < 17592186044416 then wire_Unpack.L0 (x0 - 1) z.2.1 z.2.2 (x3 ++ [z.1]) else none) else some (x3, x1, x2) := by
  refine LimIs.step' (wire_Unpack.L0_is x0 x1 x2 x3).1 (b := fun k => if x0 > 0 then (if x2 = true then some (x3, x1, x2) else (wire_unpacker_number.f k x1 x2).bind fun z => if x3.length < 17592186044416 then wire_Unpack.l0 k (x0 - 1) z.2.1 z.2.2 (x3 ++ [z.1]) else none) else some (x3, x1, x2)) (fun k => by first | rfl | rw [wire_Unpack.l0]) ?_
  repeat' first
    | (with_reducible exact wire_unpacker_number.F_is _ _)
    | (with_reducible exact wire_Unpack.L0_is _ _ _ _)
    | (with_reducible exact LimIs.const _)
    | (with_reducible refine LimIs.ite ?_ ?_)
    | (with_reducible refine LimIs.bind ?_ (fun _ => ?_))
    | exact wire_unpacker_number.F_is _ _
    | exact wire_Unpack.L0_is _ _ _ _
    | exact LimIs.const _
    | refine LimIs.ite ?_ ?_
    | refine LimIs.bind ?_ (fun _ => ?_)
set_option maxRecDepth 100000 in
theorem wire_Unpack.F_eq (a0 : ByteArray) : wire_Unpack.F a0 = if (a0.size : Int) > 65536 then some (wire_Unpack.no 4) else (wire_unpacker_byte.f a0 false).bind fun c => (wire_unpacker_text.F c.2.1 c.2.2).bind fun s => (wire_unpacker_number.F s.2.1 s.2.2).bind fun n => if c.1 = 1 then (wire_unpacker_text.F n.2.1 n.2.2).bind fun p => (wire_unpacker_text.F p.2.1 p.2.2).bind fun t => (wire_unpacker_ratio.F t.2.1 t.2.2).bind fun r => (wire_unpacker_number.F r.2.2.1 r.2.2.2).bind fun lo => (wire_unpacker_number.F lo.2.1 lo.2.2).bind fun hi => wire_Unpack.fin hi.2.1 hi.2.2 (c.1, s.1, n.1, p.1, t.1, r.1, r.2.1, lo.1, hi.1, 0, [], 0, 0, 0) else if c.1 = 2 then (wire_unpacker_number.F n.2.1 n.2.2).bind fun e => (wire_unpacker_count.F e.2.1 e.2.2).bind fun q => if 0 ≤ q.1 ∧ q.1 < 18446744073709551616 then (wire_Unpack.L0 q.1 q.2.1 q.2.2 []).bind fun v => (wire_unpacker_ratio.F v.2.1 v.2.2).bind fun r => wire_Unpack.fin r.2.2.1 r.2.2.2 (c.1, s.1, n.1, ⟨#[]⟩, ⟨#[]⟩, 0, 0, 0, 0, e.1, v.1, r.1, r.2.1, 0) else none else wire_Unpack.fin n.2.1 true (wire_Unpack.no 0) := by
  refine LimIs.out (?_ : LimIs (fun k => if (a0.size : Int) > 65536 then some (wire_Unpack.no 4) else (wire_unpacker_byte.f a0 false).bind fun c => (wire_unpacker_text.f k c.2.1 c.2.2).bind fun s => (wire_unpacker_number.f k s.2.1 s.2.2).bind fun n => if c.1 = 1 then (wire_unpacker_text.f k n.2.1 n.2.2).bind fun p => (wire_unpacker_text.f k p.2.1 p.2.2).bind fun t => (wire_unpacker_ratio.f k t.2.1 t.2.2).bind fun r => (wire_unpacker_number.f k r.2.2.1 r.2.2.2).bind fun lo => (wire_unpacker_number.f k lo.2.1 lo.2.2).bind fun hi => wire_Unpack.fin hi.2.1 hi.2.2 (c.1, s.1, n.1, p.1, t.1, r.1, r.2.1, lo.1, hi.1, 0, [], 0, 0, 0) else if c.1 = 2 then (wire_unpacker_number.f k n.2.1 n.2.2).bind fun e => (wire_unpacker_count.f k e.2.1 e.2.2).bind fun q => if 0 ≤ q.1 ∧ q.1 < 18446744073709551616 then (wire_Unpack.l0 k q.1 q.2.1 q.2.2 []).bind fun v => (wire_unpacker_ratio.f k v.2.1 v.2.2).bind fun r => wire_Unpack.fin r.2.2.1 r.2.2.2 (c.1, s.1, n.1, ⟨#[]⟩, ⟨#[]⟩, 0, 0, 0, 0, e.1, v.1, r.1, r.2.1, 0) else none else wire_Unpack.fin n.2.1 true (wire_Unpack.no 0)) _)
  repeat' first
    | (with_reducible exact wire_unpacker_text.F_is _ _)
    | (with_reducible exact wire_unpacker_number.F_is _ _)
    | (with_reducible exact wire_unpacker_ratio.F_is _ _)
    | (with_reducible exact wire_unpacker_count.F_is _ _)
    | (with_reducible exact wire_Unpack.L0_is _ _ _ _)
    | (with_reducible exact LimIs.const _)
    | (with_reducible refine LimIs.ite ?_ ?_)
    | (with_reducible refine LimIs.bind ?_ (fun _ => ?_))
    | exact wire_unpacker_text.F_is _ _
    | exact wire_unpacker_number.F_is _ _
    | exact wire_unpacker_ratio.F_is _ _
    | exact wire_unpacker_count.F_is _ _
    | exact wire_Unpack.L0_is _ _ _ _
    | exact LimIs.const _
    | refine LimIs.ite ?_ ?_
    | refine LimIs.bind ?_ (fun _ => ?_)
end Go.Proofs.Ytdfeidpkdbleaaa.PC
end
section
namespace Go.Proofs.Ytdfeidpkdbleaaa.PC
open Go.RowKit Go.Proofs.YtdfeidpkdbleaaaW.PrintWords Go.Proofs.YtdfeidpkdbleaaaW.PrintLast Go.Proofs.YtdfeidpkdbleaaaW.PrintMore
open Go.Proofs.YtdfeidpkdbleaaaW.EvKit
set_option linter.unusedVariables false
noncomputable def hushref16_count.L0 (x0 : ByteArray) (x1 : Int) (x6 : Int) (x7 : Int) (x8 : Int) : Option (Int × Int) := lim (fun k => hushref16_count.l0 k x0 x1 x6 x7 x8)
theorem hushref16_count.L0_is (x0 : ByteArray) (x1 : Int) (x6 : Int) (x7 : Int) (x8 : Int) : LimIs (fun k => hushref16_count.l0 k x0 x1 x6 x7 x8) (hushref16_count.L0 x0 x1 x6 x7 x8) := ⟨fun k => (hushref16_count.mono_l k).1 x0 x1 x6 x7 x8, rfl⟩
noncomputable def hushref16_count.J1 (x0 : ByteArray) (x1 : Int) (x6 : Int) (x7 : Int) (x8 : Int) (x23 : Bool) : Option (Int × Int) := lim (fun k => hushref16_count.j1 k x0 x1 x6 x7 x8 x23)
theorem hushref16_count.J1_is (x0 : ByteArray) (x1 : Int) (x6 : Int) (x7 : Int) (x8 : Int) (x23 : Bool) : LimIs (fun k => hushref16_count.j1 k x0 x1 x6 x7 x8 x23) (hushref16_count.J1 x0 x1 x6 x7 x8 x23) := ⟨fun k => (hushref16_count.mono_l k).2.1 x0 x1 x6 x7 x8 x23, rfl⟩
noncomputable def hushref16_count.J2 (x0 : ByteArray) (x1 : Int) (x6 : Int) (x7 : Int) (x8 : Int) (x9 : Int) (x43 : Bool) : Option (Int × Int) := lim (fun k => hushref16_count.j2 k x0 x1 x6 x7 x8 x9 x43)
theorem hushref16_count.J2_is (x0 : ByteArray) (x1 : Int) (x6 : Int) (x7 : Int) (x8 : Int) (x9 : Int) (x43 : Bool) : LimIs (fun k => hushref16_count.j2 k x0 x1 x6 x7 x8 x9 x43) (hushref16_count.J2 x0 x1 x6 x7 x8 x9 x43) := ⟨fun k => (hushref16_count.mono_l k).2.2 x0 x1 x6 x7 x8 x9 x43, rfl⟩
noncomputable def hushref16_count.F (a0 : ByteArray) (a1 : Int) : Option (Int × Int) := lim (fun k => hushref16_count.f k a0 a1)
theorem hushref16_count.F_is (a0 : ByteArray) (a1 : Int) : LimIs (fun k => hushref16_count.f k a0 a1) (hushref16_count.F a0 a1) := ⟨fun k => hushref16_count.mono a0 a1 k, rfl⟩
noncomputable def hushref16_word.F (a0 : ByteArray) (a1 : Int) : Option (ByteArray × Int) := lim (fun k => hushref16_word.f k a0 a1)
theorem hushref16_word.F_is (a0 : ByteArray) (a1 : Int) : LimIs (fun k => hushref16_word.f k a0 a1) (hushref16_word.F a0 a1) := ⟨fun k => hushref16_word.mono a0 a1 k, rfl⟩
noncomputable def hushref16_number.F (a0 : ByteArray) (a1 : Int) : Option (Int × Int) := lim (fun k => hushref16_number.f k a0 a1)
theorem hushref16_number.F_is (a0 : ByteArray) (a1 : Int) : LimIs (fun k => hushref16_number.f k a0 a1) (hushref16_number.F a0 a1) := ⟨fun k => hushref16_number.mono a0 a1 k, rfl⟩
set_option maxRecDepth 100000 in
theorem hushref16_count.L0_eq (x0 : ByteArray) (x1 : Int) (x6 : Int) (x7 : Int) (x8 : Int) : hushref16_count.L0 x0 x1 x6 x7 x8 = if x8 < 10 then (if x1 < 0 then (hushref16_count.J1 x0 x1 x6 x7 x8 true) else (hushref16_count.J1 x0 x1 x6 x7 x8 (decide ((wrap64 (x1 + x8)) ≥ (x0.size : Int))))) else (some (0, (-1))) := by
  refine LimIs.step' (hushref16_count.L0_is x0 x1 x6 x7 x8).1 (b := fun k => if x8 < 10 then (if x1 < 0 then (hushref16_count.j1 k x0 x1 x6 x7 x8 true) else (hushref16_count.j1 k x0 x1 x6 x7 x8 (decide ((wrap64 (x1 + x8)) ≥ (x0.size : Int))))) else (some (0, (-1)))) (fun k => by first | rfl | rw [hushref16_count.l0]) ?_
  repeat' first
    | (with_reducible exact hushref16_count.J1_is _ _ _ _ _ _)
    | (with_reducible exact LimIs.const _)
    | (with_reducible refine LimIs.ite ?_ ?_)
    | (with_reducible refine LimIs.bind ?_ (fun _ => ?_))
    | exact hushref16_count.J1_is _ _ _ _ _ _
    | exact LimIs.const _
    | refine LimIs.ite ?_ ?_
    | refine LimIs.bind ?_ (fun _ => ?_)
set_option maxRecDepth 100000 in
theorem hushref16_count.J1_eq (x0 : ByteArray) (x1 : Int) (x6 : Int) (x7 : Int) (x8 : Int) (x23 : Bool) : hushref16_count.J1 x0 x1 x6 x7 x8 x23 = if x23 = true then (some (0, (-1))) else (if 0 ≤ (wrap64 (x1 + x8)) then (if (wrap64 (x1 + x8)) < (x0.size : Int) then (if x8 = 9 then (if (IntKind.u64.wrap (bt x0 (wrap64 (x1 + x8)))) > 1 then (hushref16_count.J2 x0 x1 x6 x7 x8 (IntKind.u64.wrap (bt x0 (wrap64 (x1 + x8)))) true) else (if x8 > 0 then (hushref16_count.J2 x0 x1 x6 x7 x8 (IntKind.u64.wrap (bt x0 (wrap64 (x1 + x8)))) ((IntKind.u64.wrap (bt x0 (wrap64 (x1 + x8)))) == 0)) else (hushref16_count.J2 x0 x1 x6 x7 x8 (IntKind.u64.wrap (bt x0 (wrap64 (x1 + x8)))) false))) else (if x8 > 0 then (hushref16_count.J2 x0 x1 x6 x7 x8 (IntKind.u64.wrap (bt x0 (wrap64 (x1 + x8)))) ((IntKind.u64.wrap (bt x0 (wrap64 (x1 + x8)))) == 0)) else (hushref16_count.J2 x0 x1 x6 x7 x8 (IntKind.u64.wrap (bt x0 (wrap64 (x1 + x8)))) false))) else (none)) else (none)) := by
  refine LimIs.step' (hushref16_count.J1_is x0 x1 x6 x7 x8 x23).1 (b := fun k => if x23 = true then (some (0, (-1))) else (if 0 ≤ (wrap64 (x1 + x8)) then (if (wrap64 (x1 + x8)) < (x0.size : Int) then (if x8 = 9 then (if (IntKind.u64.wrap (bt x0 (wrap64 (x1 + x8)))) > 1 then (hushref16_count.j2 k x0 x1 x6 x7 x8 (IntKind.u64.wrap (bt x0 (wrap64 (x1 + x8)))) true) else (if x8 > 0 then (hushref16_count.j2 k x0 x1 x6 x7 x8 (IntKind.u64.wrap (bt x0 (wrap64 (x1 + x8)))) ((IntKind.u64.wrap (bt x0 (wrap64 (x1 + x8)))) == 0)) else (hushref16_count.j2 k x0 x1 x6 x7 x8 (IntKind.u64.wrap (bt x0 (wrap64 (x1 + x8)))) false))) else (if x8 > 0 then (hushref16_count.j2 k x0 x1 x6 x7 x8 (IntKind.u64.wrap (bt x0 (wrap64 (x1 + x8)))) ((IntKind.u64.wrap (bt x0 (wrap64 (x1 + x8)))) == 0)) else (hushref16_count.j2 k x0 x1 x6 x7 x8 (IntKind.u64.wrap (bt x0 (wrap64 (x1 + x8)))) false))) else (none)) else (none))) (fun k => by first | rfl | rw [hushref16_count.j1]) ?_
  repeat' first
    | (with_reducible exact hushref16_count.J2_is _ _ _ _ _ _ _)
    | (with_reducible exact LimIs.const _)
    | (with_reducible refine LimIs.ite ?_ ?_)
    | (with_reducible refine LimIs.bind ?_ (fun _ => ?_))
    | exact hushref16_count.J2_is _ _ _ _ _ _ _
    | exact LimIs.const _
    | refine LimIs.ite ?_ ?_
    | refine LimIs.bind ?_ (fun _ => ?_)
set_option maxRecDepth 100000 in
theorem hushref16_count.J2_eq (x0 : ByteArray) (x1 : Int) (x6 : Int) (x7 : Int) (x8 : Int) (x9 : Int) (x43 : Bool) : hushref16_count.J2 x0 x1 x6 x7 x8 x9 x43 = if x43 = true then (some (0, (-1))) else (if x9 < 128 then (some (IntKind.u64.wrap (x6 + (IntKind.u64.wrap ((Int.tmod x9 128) * x7))), wrap64 ((wrap64 (x1 + x8)) + 1))) else (hushref16_count.L0 x0 x1 (IntKind.u64.wrap (x6 + (IntKind.u64.wrap ((Int.tmod x9 128) * x7)))) (IntKind.u64.wrap (x7 * 128)) (wrap64 (x8 + 1)))) := by
  refine LimIs.step' (hushref16_count.J2_is x0 x1 x6 x7 x8 x9 x43).1 (b := fun k => if x43 = true then (some (0, (-1))) else (if x9 < 128 then (some (IntKind.u64.wrap (x6 + (IntKind.u64.wrap ((Int.tmod x9 128) * x7))), wrap64 ((wrap64 (x1 + x8)) + 1))) else (hushref16_count.l0 k x0 x1 (IntKind.u64.wrap (x6 + (IntKind.u64.wrap ((Int.tmod x9 128) * x7)))) (IntKind.u64.wrap (x7 * 128)) (wrap64 (x8 + 1))))) (fun k => by first | rfl | rw [hushref16_count.j2]) ?_
  repeat' first
    | (with_reducible exact hushref16_count.L0_is _ _ _ _ _)
    | (with_reducible exact LimIs.const _)
    | (with_reducible refine LimIs.ite ?_ ?_)
    | (with_reducible refine LimIs.bind ?_ (fun _ => ?_))
    | exact hushref16_count.L0_is _ _ _ _ _
    | exact LimIs.const _
    | refine LimIs.ite ?_ ?_
    | refine LimIs.bind ?_ (fun _ => ?_)
set_option maxRecDepth 100000 in
theorem hushref16_count.F_eq (a0 : ByteArray) (a1 : Int) : hushref16_count.F a0 a1 = hushref16_count.L0 a0 a1 0 1 0 := by
  refine LimIs.out (?_ : LimIs (fun k => hushref16_count.l0 k a0 a1 0 1 0) _)
  repeat' first
    | (with_reducible exact hushref16_count.L0_is _ _ _ _ _)
    | (with_reducible exact LimIs.const _)
    | (with_reducible refine LimIs.ite ?_ ?_)
    | (with_reducible refine LimIs.bind ?_ (fun _ => ?_))
    | exact hushref16_count.L0_is _ _ _ _ _
    | exact LimIs.const _
    | refine LimIs.ite ?_ ?_
    | refine LimIs.bind ?_ (fun _ => ?_)
set_option maxRecDepth 100000 in
theorem hushref16_word.F_eq (a0 : ByteArray) (a1 : Int) : hushref16_word.F a0 a1 = (hushref16_count.F a0 a1).bind fun bt216 => (if bt216.2 < 0 then (some ((⟨#[]⟩ : ByteArray), (-1))) else (if bt216.1 > (IntKind.u64.wrap (wrap64 ((a0.size : Int) - bt216.2))) then (some ((⟨#[]⟩ : ByteArray), (-1))) else (if 0 ≤ bt216.2 then (if bt216.2 ≤ (wrap64 (bt216.2 + (wrap64 (bt216.1)))) then (if (wrap64 (bt216.2 + (wrap64 (bt216.1)))) ≤ (a0.size : Int) then (some (a0.extract (bt216.2 : Int).toNat ((wrap64 (bt216.2 + (wrap64 (bt216.1)))) : Int).toNat, wrap64 (bt216.2 + (wrap64 (bt216.1))))) else (none)) else (none)) else (none)))) := by
  refine LimIs.out (?_ : LimIs (fun k => (hushref16_count.f k a0 a1).bind fun bt216 => (if bt216.2 < 0 then (some ((⟨#[]⟩ : ByteArray), (-1))) else (if bt216.1 > (IntKind.u64.wrap (wrap64 ((a0.size : Int) - bt216.2))) then (some ((⟨#[]⟩ : ByteArray), (-1))) else (if 0 ≤ bt216.2 then (if bt216.2 ≤ (wrap64 (bt216.2 + (wrap64 (bt216.1)))) then (if (wrap64 (bt216.2 + (wrap64 (bt216.1)))) ≤ (a0.size : Int) then (some (a0.extract (bt216.2 : Int).toNat ((wrap64 (bt216.2 + (wrap64 (bt216.1)))) : Int).toNat, wrap64 (bt216.2 + (wrap64 (bt216.1))))) else (none)) else (none)) else (none))))) _)
  repeat' first
    | (with_reducible exact hushref16_count.F_is _ _)
    | (with_reducible exact LimIs.const _)
    | (with_reducible refine LimIs.ite ?_ ?_)
    | (with_reducible refine LimIs.bind ?_ (fun _ => ?_))
    | exact hushref16_count.F_is _ _
    | exact LimIs.const _
    | refine LimIs.ite ?_ ?_
    | refine LimIs.bind ?_ (fun _ => ?_)
set_option maxRecDepth 100000 in
theorem hushref16_number.F_eq (a0 : ByteArray) (a1 : Int) : hushref16_number.F a0 a1 = (hushref16_count.F a0 a1).bind fun bt218 => (if (Int.tmod bt218.1 2) = 0 then (some (wrap64 (IntKind.u64.wrap (Int.tdiv bt218.1 2)), bt218.2)) else (some (wrap64 ((wrap64 (-(wrap64 (IntKind.u64.wrap (Int.tdiv bt218.1 2))))) - 1), bt218.2))) := by
  refine LimIs.out (?_ : LimIs (fun k => (hushref16_count.f k a0 a1).bind fun bt218 => (if (Int.tmod bt218.1 2) = 0 then (some (wrap64 (IntKind.u64.wrap (Int.tdiv bt218.1 2)), bt218.2)) else (some (wrap64 ((wrap64 (-(wrap64 (IntKind.u64.wrap (Int.tdiv bt218.1 2))))) - 1), bt218.2)))) _)
  repeat' first
    | (with_reducible exact hushref16_count.F_is _ _)
    | (with_reducible exact LimIs.const _)
    | (with_reducible refine LimIs.ite ?_ ?_)
    | (with_reducible refine LimIs.bind ?_ (fun _ => ?_))
    | exact hushref16_count.F_is _ _
    | exact LimIs.const _
    | refine LimIs.ite ?_ ?_
    | refine LimIs.bind ?_ (fun _ => ?_)
end Go.Proofs.Ytdfeidpkdbleaaa.PC
end
section
namespace Go.Proofs.Ytdfeidpkdbleaaa.PC
open Go.RowKit Go.Proofs.YtdfeidpkdbleaaaW.PrintWords Go.Proofs.YtdfeidpkdbleaaaW.PrintLast Go.Proofs.YtdfeidpkdbleaaaW.PrintMore
open Go.Proofs.YtdfeidpkdbleaaaW.EvKit
set_option linter.unusedVariables false
noncomputable def hushref16_Unpack.L0 (x0 : ByteArray) (x1 : Int) (x2 : Int) (x3 : List Int) : Option (List Int × Int) := lim (fun k => hushref16_Unpack.l0 k x0 x1 x2 x3)
theorem hushref16_Unpack.L0_is (x0 : ByteArray) (x1 : Int) (x2 : Int) (x3 : List Int) : LimIs (fun k => hushref16_Unpack.l0 k x0 x1 x2 x3) (hushref16_Unpack.L0 x0 x1 x2 x3) := ⟨fun k => (hushref16_Unpack.mono_l k) x0 x1 x2 x3, rfl⟩
noncomputable def hushref16_Unpack.F (a0 : ByteArray) : Option RunM := lim (fun k => hushref16_Unpack.f k a0)
theorem hushref16_Unpack.F_is (a0 : ByteArray) : LimIs (fun k => hushref16_Unpack.f k a0) (hushref16_Unpack.F a0) := ⟨fun k => hushref16_Unpack.mono a0 k, rfl⟩
set_option maxRecDepth 100000 in
theorem hushref16_Unpack.L0_eq (x0 : ByteArray) (x1 : Int) (x2 : Int) (x3 : List Int) : hushref16_Unpack.L0 x0 x1 x2 x3 = if x2 > 0 then (if x1 ≥ 0 then (hushref16_number.F x0 x1).bind fun z => if x3.length < 17592186044416 then hushref16_Unpack.L0 x0 z.2 (x2 - 1) (x3 ++ [z.1]) else none else some (x3, x1)) else some (x3, x1) := by
  refine LimIs.step' (hushref16_Unpack.L0_is x0 x1 x2 x3).1 (b := fun k => if x2 > 0 then (if x1 ≥ 0 then (hushref16_number.f k x0 x1).bind fun z => if x3.length < 17592186044416 then hushref16_Unpack.l0 k x0 z.2 (x2 - 1) (x3 ++ [z.1]) else none else some (x3, x1)) else some (x3, x1)) (fun k => by first | rfl | rw [hushref16_Unpack.l0]) ?_
  repeat' first
    | (with_reducible exact hushref16_number.F_is _ _)
    | (with_reducible exact hushref16_Unpack.L0_is _ _ _ _)
    | (with_reducible exact LimIs.const _)
    | (with_reducible refine LimIs.ite ?_ ?_)
    | (with_reducible refine LimIs.bind ?_ (fun _ => ?_))
    | exact hushref16_number.F_is _ _
    | exact hushref16_Unpack.L0_is _ _ _ _
    | exact LimIs.const _
    | refine LimIs.ite ?_ ?_
    | refine LimIs.bind ?_ (fun _ => ?_)
set_option maxRecDepth 100000 in
theorem hushref16_Unpack.F_eq (a0 : ByteArray) : hushref16_Unpack.F a0 = if (a0.size : Int) > 65536 then some (hushref16_Unpack.no 4) else if (a0.size : Int) = 0 then some (hushref16_Unpack.no 2) else if bt a0 0 = 1 then (hushref16_word.F a0 1).bind fun s => (hushref16_number.F a0 s.2).bind fun n => (hushref16_word.F a0 n.2).bind fun p => (hushref16_word.F a0 p.2).bind fun t => (hushref16_number.F a0 t.2).bind fun u => (hushref16_number.F a0 u.2).bind fun v => (hushref16_number.F a0 v.2).bind fun lo => (hushref16_number.F a0 lo.2).bind fun hi => some (hushref16_Unpack.fin a0 hi.2 (1, s.1, n.1, p.1, t.1, u.1, v.1, lo.1, hi.1, 0, [], 0, 0, 0)) else if bt a0 0 = 2 then (hushref16_word.F a0 1).bind fun s => (hushref16_number.F a0 s.2).bind fun n => (hushref16_number.F a0 n.2).bind fun e => (hushref16_count.F a0 e.2).bind fun q => if 0 ≤ q.1 ∧ q.1 < 18446744073709551616 then (hushref16_Unpack.L0 a0 q.2 q.1 []).bind fun vs => (hushref16_number.F a0 vs.2).bind fun u => (hushref16_number.F a0 u.2).bind fun v => some (hushref16_Unpack.fin a0 v.2 (2, s.1, n.1, ⟨#[]⟩, ⟨#[]⟩, 0, 0, 0, 0, e.1, vs.1, u.1, v.1, 0)) else none else some (hushref16_Unpack.no 2) := by
  refine LimIs.out (?_ : LimIs (fun k => if (a0.size : Int) > 65536 then some (hushref16_Unpack.no 4) else if (a0.size : Int) = 0 then some (hushref16_Unpack.no 2) else if bt a0 0 = 1 then (hushref16_word.f k a0 1).bind fun s => (hushref16_number.f k a0 s.2).bind fun n => (hushref16_word.f k a0 n.2).bind fun p => (hushref16_word.f k a0 p.2).bind fun t => (hushref16_number.f k a0 t.2).bind fun u => (hushref16_number.f k a0 u.2).bind fun v => (hushref16_number.f k a0 v.2).bind fun lo => (hushref16_number.f k a0 lo.2).bind fun hi => some (hushref16_Unpack.fin a0 hi.2 (1, s.1, n.1, p.1, t.1, u.1, v.1, lo.1, hi.1, 0, [], 0, 0, 0)) else if bt a0 0 = 2 then (hushref16_word.f k a0 1).bind fun s => (hushref16_number.f k a0 s.2).bind fun n => (hushref16_number.f k a0 n.2).bind fun e => (hushref16_count.f k a0 e.2).bind fun q => if 0 ≤ q.1 ∧ q.1 < 18446744073709551616 then (hushref16_Unpack.l0 k a0 q.2 q.1 []).bind fun vs => (hushref16_number.f k a0 vs.2).bind fun u => (hushref16_number.f k a0 u.2).bind fun v => some (hushref16_Unpack.fin a0 v.2 (2, s.1, n.1, ⟨#[]⟩, ⟨#[]⟩, 0, 0, 0, 0, e.1, vs.1, u.1, v.1, 0)) else none else some (hushref16_Unpack.no 2)) _)
  repeat' first
    | (with_reducible exact hushref16_word.F_is _ _)
    | (with_reducible exact hushref16_number.F_is _ _)
    | (with_reducible exact hushref16_count.F_is _ _)
    | (with_reducible exact hushref16_Unpack.L0_is _ _ _ _)
    | (with_reducible exact LimIs.const _)
    | (with_reducible refine LimIs.ite ?_ ?_)
    | (with_reducible refine LimIs.bind ?_ (fun _ => ?_))
    | exact hushref16_word.F_is _ _
    | exact hushref16_number.F_is _ _
    | exact hushref16_count.F_is _ _
    | exact hushref16_Unpack.L0_is _ _ _ _
    | exact LimIs.const _
    | refine LimIs.ite ?_ ?_
    | refine LimIs.bind ?_ (fun _ => ?_)
end Go.Proofs.Ytdfeidpkdbleaaa.PC
end
section
namespace Go.Proofs.Ytdfeidpkdbleaaa.PC
open Go.RowKit Go.Proofs.YtdfeidpkdbleaaaW.PrintWords Go.Proofs.YtdfeidpkdbleaaaW.PrintLast Go.Proofs.YtdfeidpkdbleaaaW.PrintMore
open Go.Proofs.YtdfeidpkdbleaaaW.EvKit
set_option linter.unusedVariables false
noncomputable def hushref16_Same.J0 (x82 : Bool) (x221000 : Int) (x221001 : ByteArray) (x221002 : Int) (x221003 : ByteArray) (x221004 : ByteArray) (x221005 : Int) (x221006 : Int) (x221007 : Int) (x221008 : Int) (x221009 : Int) (x221010 : List Int) (x221011 : Int) (x221012 : Int) (x222000 : Int) (x222001 : ByteArray) (x222002 : Int) (x222003 : ByteArray) (x222004 : ByteArray) (x222005 : Int) (x222006 : Int) (x222007 : Int) (x222008 : Int) (x222009 : Int) (x222010 : List Int) (x222011 : Int) (x222012 : Int) : Option (Bool) := lim (fun k => hushref16_Same.j0 k x82 x221000 x221001 x221002 x221003 x221004 x221005 x221006 x221007 x221008 x221009 x221010 x221011 x221012 x222000 x222001 x222002 x222003 x222004 x222005 x222006 x222007 x222008 x222009 x222010 x222011 x222012)
theorem hushref16_Same.J0_is (x82 : Bool) (x221000 : Int) (x221001 : ByteArray) (x221002 : Int) (x221003 : ByteArray) (x221004 : ByteArray) (x221005 : Int) (x221006 : Int) (x221007 : Int) (x221008 : Int) (x221009 : Int) (x221010 : List Int) (x221011 : Int) (x221012 : Int) (x222000 : Int) (x222001 : ByteArray) (x222002 : Int) (x222003 : ByteArray) (x222004 : ByteArray) (x222005 : Int) (x222006 : Int) (x222007 : Int) (x222008 : Int) (x222009 : Int) (x222010 : List Int) (x222011 : Int) (x222012 : Int) : LimIs (fun k => hushref16_Same.j0 k x82 x221000 x221001 x221002 x221003 x221004 x221005 x221006 x221007 x221008 x221009 x221010 x221011 x221012 x222000 x222001 x222002 x222003 x222004 x222005 x222006 x222007 x222008 x222009 x222010 x222011 x222012) (hushref16_Same.J0 x82 x221000 x221001 x221002 x221003 x221004 x221005 x221006 x221007 x221008 x221009 x221010 x221011 x221012 x222000 x222001 x222002 x222003 x222004 x222005 x222006 x222007 x222008 x222009 x222010 x222011 x222012) := ⟨fun k => (hushref16_Same.mono_l k).1 x82 x221000 x221001 x221002 x221003 x221004 x221005 x221006 x221007 x221008 x221009 x221010 x221011 x221012 x222000 x222001 x222002 x222003 x222004 x222005 x222006 x222007 x222008 x222009 x222010 x222011 x222012, rfl⟩
noncomputable def hushref16_Same.L0 (x85 : Int) (x86 : Int) (x221000 : Int) (x221001 : ByteArray) (x221002 : Int) (x221003 : ByteArray) (x221004 : ByteArray) (x221005 : Int) (x221006 : Int) (x221007 : Int) (x221008 : Int) (x221009 : Int) (x221010 : List Int) (x221011 : Int) (x221012 : Int) (x222000 : Int) (x222001 : ByteArray) (x222002 : Int) (x222003 : ByteArray) (x222004 : ByteArray) (x222005 : Int) (x222006 : Int) (x222007 : Int) (x222008 : Int) (x222009 : Int) (x222010 : List Int) (x222011 : Int) (x222012 : Int) : Option (Bool) := lim (fun k => hushref16_Same.l0 k x85 x86 x221000 x221001 x221002 x221003 x221004 x221005 x221006 x221007 x221008 x221009 x221010 x221011 x221012 x222000 x222001 x222002 x222003 x222004 x222005 x222006 x222007 x222008 x222009 x222010 x222011 x222012)
theorem hushref16_Same.L0_is (x85 : Int) (x86 : Int) (x221000 : Int) (x221001 : ByteArray) (x221002 : Int) (x221003 : ByteArray) (x221004 : ByteArray) (x221005 : Int) (x221006 : Int) (x221007 : Int) (x221008 : Int) (x221009 : Int) (x221010 : List Int) (x221011 : Int) (x221012 : Int) (x222000 : Int) (x222001 : ByteArray) (x222002 : Int) (x222003 : ByteArray) (x222004 : ByteArray) (x222005 : Int) (x222006 : Int) (x222007 : Int) (x222008 : Int) (x222009 : Int) (x222010 : List Int) (x222011 : Int) (x222012 : Int) : LimIs (fun k => hushref16_Same.l0 k x85 x86 x221000 x221001 x221002 x221003 x221004 x221005 x221006 x221007 x221008 x221009 x221010 x221011 x221012 x222000 x222001 x222002 x222003 x222004 x222005 x222006 x222007 x222008 x222009 x222010 x222011 x222012) (hushref16_Same.L0 x85 x86 x221000 x221001 x221002 x221003 x221004 x221005 x221006 x221007 x221008 x221009 x221010 x221011 x221012 x222000 x222001 x222002 x222003 x222004 x222005 x222006 x222007 x222008 x222009 x222010 x222011 x222012) := ⟨fun k => (hushref16_Same.mono_l k).2 x85 x86 x221000 x221001 x221002 x221003 x221004 x221005 x221006 x221007 x221008 x221009 x221010 x221011 x221012 x222000 x222001 x222002 x222003 x222004 x222005 x222006 x222007 x222008 x222009 x222010 x222011 x222012, rfl⟩
noncomputable def hushref16_Same.F (a0_0 : Int) (a0_1 : ByteArray) (a0_2 : Int) (a0_3 : ByteArray) (a0_4 : ByteArray) (a0_5 : Int) (a0_6 : Int) (a0_7 : Int) (a0_8 : Int) (a0_9 : Int) (l0_10 : List Int) (a0_11 : Int) (a0_12 : Int) (a1_0 : Int) (a1_1 : ByteArray) (a1_2 : Int) (a1_3 : ByteArray) (a1_4 : ByteArray) (a1_5 : Int) (a1_6 : Int) (a1_7 : Int) (a1_8 : Int) (a1_9 : Int) (l1_10 : List Int) (a1_11 : Int) (a1_12 : Int) : Option (Bool) := lim (fun k => hushref16_Same.f k a0_0 a0_1 a0_2 a0_3 a0_4 a0_5 a0_6 a0_7 a0_8 a0_9 l0_10 a0_11 a0_12 a1_0 a1_1 a1_2 a1_3 a1_4 a1_5 a1_6 a1_7 a1_8 a1_9 l1_10 a1_11 a1_12)
theorem hushref16_Same.F_is (a0_0 : Int) (a0_1 : ByteArray) (a0_2 : Int) (a0_3 : ByteArray) (a0_4 : ByteArray) (a0_5 : Int) (a0_6 : Int) (a0_7 : Int) (a0_8 : Int) (a0_9 : Int) (l0_10 : List Int) (a0_11 : Int) (a0_12 : Int) (a1_0 : Int) (a1_1 : ByteArray) (a1_2 : Int) (a1_3 : ByteArray) (a1_4 : ByteArray) (a1_5 : Int) (a1_6 : Int) (a1_7 : Int) (a1_8 : Int) (a1_9 : Int) (l1_10 : List Int) (a1_11 : Int) (a1_12 : Int) : LimIs (fun k => hushref16_Same.f k a0_0 a0_1 a0_2 a0_3 a0_4 a0_5 a0_6 a0_7 a0_8 a0_9 l0_10 a0_11 a0_12 a1_0 a1_1 a1_2 a1_3 a1_4 a1_5 a1_6 a1_7 a1_8 a1_9 l1_10 a1_11 a1_12) (hushref16_Same.F a0_0 a0_1 a0_2 a0_3 a0_4 a0_5 a0_6 a0_7 a0_8 a0_9 l0_10 a0_11 a0_12 a1_0 a1_1 a1_2 a1_3 a1_4 a1_5 a1_6 a1_7 a1_8 a1_9 l1_10 a1_11 a1_12) := ⟨fun k => hushref16_Same.mono a0_0 a0_1 a0_2 a0_3 a0_4 a0_5 a0_6 a0_7 a0_8 a0_9 l0_10 a0_11 a0_12 a1_0 a1_1 a1_2 a1_3 a1_4 a1_5 a1_6 a1_7 a1_8 a1_9 l1_10 a1_11 a1_12 k, rfl⟩
set_option maxRecDepth 100000 in
theorem hushref16_Same.J0_eq (x82 : Bool) (x221000 : Int) (x221001 : ByteArray) (x221002 : Int) (x221003 : ByteArray) (x221004 : ByteArray) (x221005 : Int) (x221006 : Int) (x221007 : Int) (x221008 : Int) (x221009 : Int) (x221010 : List Int) (x221011 : Int) (x221012 : Int) (x222000 : Int) (x222001 : ByteArray) (x222002 : Int) (x222003 : ByteArray) (x222004 : ByteArray) (x222005 : Int) (x222006 : Int) (x222007 : Int) (x222008 : Int) (x222009 : Int) (x222010 : List Int) (x222011 : Int) (x222012 : Int) : hushref16_Same.J0 x82 x221000 x221001 x221002 x221003 x221004 x221005 x221006 x221007 x221008 x221009 x221010 x221011 x221012 x222000 x222001 x222002 x222003 x222004 x222005 x222006 x222007 x222008 x222009 x222010 x222011 x222012 = if x82 = true then (some false) else (hushref16_Same.L0 (x221010.length : Int) 0 x221000 x221001 x221002 x221003 x221004 x221005 x221006 x221007 x221008 x221009 x221010 x221011 x221012 x222000 x222001 x222002 x222003 x222004 x222005 x222006 x222007 x222008 x222009 x222010 x222011 x222012) := by
  refine LimIs.step' (hushref16_Same.J0_is x82 x221000 x221001 x221002 x221003 x221004 x221005 x221006 x221007 x221008 x221009 x221010 x221011 x221012 x222000 x222001 x222002 x222003 x222004 x222005 x222006 x222007 x222008 x222009 x222010 x222011 x222012).1 (b := fun k => if x82 = true then (some false) else (hushref16_Same.l0 k (x221010.length : Int) 0 x221000 x221001 x221002 x221003 x221004 x221005 x221006 x221007 x221008 x221009 x221010 x221011 x221012 x222000 x222001 x222002 x222003 x222004 x222005 x222006 x222007 x222008 x222009 x222010 x222011 x222012)) (fun k => by first | rfl | rw [hushref16_Same.j0]) ?_
  repeat' first
    | (with_reducible exact hushref16_Same.L0_is _ _ _ _ _ _ _ _ _ _ _ _ _ _ _ _ _ _ _ _ _ _ _ _ _ _ _ _)
    | (with_reducible exact LimIs.const _)
    | (with_reducible refine LimIs.ite ?_ ?_)
    | (with_reducible refine LimIs.bind ?_ (fun _ => ?_))
    | exact hushref16_Same.L0_is _ _ _ _ _ _ _ _ _ _ _ _ _ _ _ _ _ _ _ _ _ _ _ _ _ _ _ _
    | exact LimIs.const _
    | refine LimIs.ite ?_ ?_
    | refine LimIs.bind ?_ (fun _ => ?_)
set_option maxRecDepth 100000 in
theorem hushref16_Same.L0_eq (x85 : Int) (x86 : Int) (x221000 : Int) (x221001 : ByteArray) (x221002 : Int) (x221003 : ByteArray) (x221004 : ByteArray) (x221005 : Int) (x221006 : Int) (x221007 : Int) (x221008 : Int) (x221009 : Int) (x221010 : List Int) (x221011 : Int) (x221012 : Int) (x222000 : Int) (x222001 : ByteArray) (x222002 : Int) (x222003 : ByteArray) (x222004 : ByteArray) (x222005 : Int) (x222006 : Int) (x222007 : Int) (x222008 : Int) (x222009 : Int) (x222010 : List Int) (x222011 : Int) (x222012 : Int) : hushref16_Same.L0 x85 x86 x221000 x221001 x221002 x221003 x221004 x221005 x221006 x221007 x221008 x221009 x221010 x221011 x221012 x222000 x222001 x222002 x222003 x222004 x222005 x222006 x222007 x222008 x222009 x222010 x222011 x222012 = if x86 < x85 then (if 0 ≤ x86 then (if x86 < (x221010.length : Int) then (if x86 < (x222010.length : Int) then (if (rd x221010 x86) = (rd x222010 x86) then (hushref16_Same.L0 x85 (wrap64 (x86 + 1)) x221000 x221001 x221002 x221003 x221004 x221005 x221006 x221007 x221008 x221009 x221010 x221011 x221012 x222000 x222001 x222002 x222003 x222004 x222005 x222006 x222007 x222008 x222009 x222010 x222011 x222012) else (some false)) else (none)) else (none)) else (none)) else (some true) := by
  refine LimIs.step' (hushref16_Same.L0_is x85 x86 x221000 x221001 x221002 x221003 x221004 x221005 x221006 x221007 x221008 x221009 x221010 x221011 x221012 x222000 x222001 x222002 x222003 x222004 x222005 x222006 x222007 x222008 x222009 x222010 x222011 x222012).1 (b := fun k => if x86 < x85 then (if 0 ≤ x86 then (if x86 < (x221010.length : Int) then (if x86 < (x222010.length : Int) then (if (rd x221010 x86) = (rd x222010 x86) then (hushref16_Same.l0 k x85 (wrap64 (x86 + 1)) x221000 x221001 x221002 x221003 x221004 x221005 x221006 x221007 x221008 x221009 x221010 x221011 x221012 x222000 x222001 x222002 x222003 x222004 x222005 x222006 x222007 x222008 x222009 x222010 x222011 x222012) else (some false)) else (none)) else (none)) else (none)) else (some true)) (fun k => by first | rfl | rw [hushref16_Same.l0]) ?_
  repeat' first
    | (with_reducible exact hushref16_Same.L0_is _ _ _ _ _ _ _ _ _ _ _ _ _ _ _ _ _ _ _ _ _ _ _ _ _ _ _ _)
    | (with_reducible exact LimIs.const _)
    | (with_reducible refine LimIs.ite ?_ ?_)
    | (with_reducible refine LimIs.bind ?_ (fun _ => ?_))
    | exact hushref16_Same.L0_is _ _ _ _ _ _ _ _ _ _ _ _ _ _ _ _ _ _ _ _ _ _ _ _ _ _ _ _
    | exact LimIs.const _
    | refine LimIs.ite ?_ ?_
    | refine LimIs.bind ?_ (fun _ => ?_)
set_option maxRecDepth 100000 in
theorem hushref16_Same.F_eq (a0_0 : Int) (a0_1 : ByteArray) (a0_2 : Int) (a0_3 : ByteArray) (a0_4 : ByteArray) (a0_5 : Int) (a0_6 : Int) (a0_7 : Int) (a0_8 : Int) (a0_9 : Int) (l0_10 : List Int) (a0_11 : Int) (a0_12 : Int) (a1_0 : Int) (a1_1 : ByteArray) (a1_2 : Int) (a1_3 : ByteArray) (a1_4 : ByteArray) (a1_5 : Int) (a1_6 : Int) (a1_7 : Int) (a1_8 : Int) (a1_9 : Int) (l1_10 : List Int) (a1_11 : Int) (a1_12 : Int) : hushref16_Same.F a0_0 a0_1 a0_2 a0_3 a0_4 a0_5 a0_6 a0_7 a0_8 a0_9 l0_10 a0_11 a0_12 a1_0 a1_1 a1_2 a1_3 a1_4 a1_5 a1_6 a1_7 a1_8 a1_9 l1_10 a1_11 a1_12 = if a0_0 = a1_0 then (if a0_1.toList = a1_1.toList then (if a0_2 = a1_2 then (if a0_3.toList = a1_3.toList then (if a0_4.toList = a1_4.toList then (if (!(a0_5 == a1_5) || (!(a0_6 == a1_6))) = true then (hushref16_Same.J0 true a0_0 a0_1 a0_2 a0_3 a0_4 a0_5 a0_6 a0_7 a0_8 a0_9 l0_10 a0_11 a0_12 a1_0 a1_1 a1_2 a1_3 a1_4 a1_5 a1_6 a1_7 a1_8 a1_9 l1_10 a1_11 a1_12) else (if a0_7 = a1_7 then (if a0_8 = a1_8 then (if a0_9 = a1_9 then (if (!(a0_11 == a1_11) || (!(a0_12 == a1_12))) = true then (hushref16_Same.J0 true a0_0 a0_1 a0_2 a0_3 a0_4 a0_5 a0_6 a0_7 a0_8 a0_9 l0_10 a0_11 a0_12 a1_0 a1_1 a1_2 a1_3 a1_4 a1_5 a1_6 a1_7 a1_8 a1_9 l1_10 a1_11 a1_12) else (hushref16_Same.J0 ((l0_10.length : Int) != (l1_10.length : Int)) a0_0 a0_1 a0_2 a0_3 a0_4 a0_5 a0_6 a0_7 a0_8 a0_9 l0_10 a0_11 a0_12 a1_0 a1_1 a1_2 a1_3 a1_4 a1_5 a1_6 a1_7 a1_8 a1_9 l1_10 a1_11 a1_12)) else (hushref16_Same.J0 true a0_0 a0_1 a0_2 a0_3 a0_4 a0_5 a0_6 a0_7 a0_8 a0_9 l0_10 a0_11 a0_12 a1_0 a1_1 a1_2 a1_3 a1_4 a1_5 a1_6 a1_7 a1_8 a1_9 l1_10 a1_11 a1_12)) else (hushref16_Same.J0 true a0_0 a0_1 a0_2 a0_3 a0_4 a0_5 a0_6 a0_7 a0_8 a0_9 l0_10 a0_11 a0_12 a1_0 a1_1 a1_2 a1_3 a1_4 a1_5 a1_6 a1_7 a1_8 a1_9 l1_10 a1_11 a1_12)) else (hushref16_Same.J0 true a0_0 a0_1 a0_2 a0_3 a0_4 a0_5 a0_6 a0_7 a0_8 a0_9 l0_10 a0_11 a0_12 a1_0 a1_1 a1_2 a1_3 a1_4 a1_5 a1_6 a1_7 a1_8 a1_9 l1_10 a1_11 a1_12))) else (hushref16_Same.J0 true a0_0 a0_1 a0_2 a0_3 a0_4 a0_5 a0_6 a0_7 a0_8 a0_9 l0_10 a0_11 a0_12 a1_0 a1_1 a1_2 a1_3 a1_4 a1_5 a1_6 a1_7 a1_8 a1_9 l1_10 a1_11 a1_12)) else (hushref16_Same.J0 true a0_0 a0_1 a0_2 a0_3 a0_4 a0_5 a0_6 a0_7 a0_8 a0_9 l0_10 a0_11 a0_12 a1_0 a1_1 a1_2 a1_3 a1_4 a1_5 a1_6 a1_7 a1_8 a1_9 l1_10 a1_11 a1_12)) else (hushref16_Same.J0 true a0_0 a0_1 a0_2 a0_3 a0_4 a0_5 a0_6 a0_7 a0_8 a0_9 l0_10 a0_11 a0_12 a1_0 a1_1 a1_2 a1_3 a1_4 a1_5 a1_6 a1_7 a1_8 a1_9 l1_10 a1_11 a1_12)) else (hushref16_Same.J0 true a0_0 a0_1 a0_2 a0_3 a0_4 a0_5 a0_6 a0_7 a0_8 a0_9 l0_10 a0_11 a0_12 a1_0 a1_1 a1_2 a1_3 a1_4 a1_5 a1_6 a1_7 a1_8 a1_9 l1_10 a1_11 a1_12)) else (hushref16_Same.J0 true a0_0 a0_1 a0_2 a0_3 a0_4 a0_5 a0_6 a0_7 a0_8 a0_9 l0_10 a0_11 a0_12 a1_0 a1_1 a1_2 a1_3 a1_4 a1_5 a1_6 a1_7 a1_8 a1_9 l1_10 a1_11 a1_12) := by
  refine LimIs.out (?_ : LimIs (fun k => if a0_0 = a1_0 then (if a0_1.toList = a1_1.toList then (if a0_2 = a1_2 then (if a0_3.toList = a1_3.toList then (if a0_4.toList = a1_4.toList then (if (!(a0_5 == a1_5) || (!(a0_6 == a1_6))) = true then (hushref16_Same.j0 k true a0_0 a0_1 a0_2 a0_3 a0_4 a0_5 a0_6 a0_7 a0_8 a0_9 l0_10 a0_11 a0_12 a1_0 a1_1 a1_2 a1_3 a1_4 a1_5 a1_6 a1_7 a1_8 a1_9 l1_10 a1_11 a1_12) else (if a0_7 = a1_7 then (if a0_8 = a1_8 then (if a0_9 = a1_9 then (if (!(a0_11 == a1_11) || (!(a0_12 == a1_12))) = true then (hushref16_Same.j0 k true a0_0 a0_1 a0_2 a0_3 a0_4 a0_5 a0_6 a0_7 a0_8 a0_9 l0_10 a0_11 a0_12 a1_0 a1_1 a1_2 a1_3 a1_4 a1_5 a1_6 a1_7 a1_8 a1_9 l1_10 a1_11 a1_12) else (hushref16_Same.j0 k ((l0_10.length : Int) != (l1_10.length : Int)) a0_0 a0_1 a0_2 a0_3 a0_4 a0_5 a0_6 a0_7 a0_8 a0_9 l0_10 a0_11 a0_12 a1_0 a1_1 a1_2 a1_3 a1_4 a1_5 a1_6 a1_7 a1_8 a1_9 l1_10 a1_11 a1_12)) else (hushref16_Same.j0 k true a0_0 a0_1 a0_2 a0_3 a0_4 a0_5 a0_6 a0_7 a0_8 a0_9 l0_10 a0_11 a0_12 a1_0 a1_1 a1_2 a1_3 a1_4 a1_5 a1_6 a1_7 a1_8 a1_9 l1_10 a1_11 a1_12)) else (hushref16_Same.j0 k true a0_0 a0_1 a0_2 a0_3 a0_4 a0_5 a0_6 a0_7 a0_8 a0_9 l0_10 a0_11 a0_12 a1_0 a1_1 a1_2 a1_3 a1_4 a1_5 a1_6 a1_7 a1_8 a1_9 l1_10 a1_11 a1_12)) else (hushref16_Same.j0 k true a0_0 a0_1 a0_2 a0_3 a0_4 a0_5 a0_6 a0_7 a0_8 a0_9 l0_10 a0_11 a0_12 a1_0 a1_1 a1_2 a1_3 a1_4 a1_5 a1_6 a1_7 a1_8 a1_9 l1_10 a1_11 a1_12))) else (hushref16_Same.j0 k true a0_0 a0_1 a0_2 a0_3 a0_4 a0_5 a0_6 a0_7 a0_8 a0_9 l0_10 a0_11 a0_12 a1_0 a1_1 a1_2 a1_3 a1_4 a1_5 a1_6 a1_7 a1_8 a1_9 l1_10 a1_11 a1_12)) else (hushref16_Same.j0 k true a0_0 a0_1 a0_2 a0_3 a0_4 a0_5 a0_6 a0_7 a0_8 a0_9 l0_10 a0_11 a0_12 a1_0 a1_1 a1_2 a1_3 a1_4 a1_5 a1_6 a1_7 a1_8 a1_9 l1_10 a1_11 a1_12)) else (hushref16_Same.j0 k true a0_0 a0_1 a0_2 a0_3 a0_4 a0_5 a0_6 a0_7 a0_8 a0_9 l0_10 a0_11 a0_12 a1_0 a1_1 a1_2 a1_3 a1_4 a1_5 a1_6 a1_7 a1_8 a1_9 l1_10 a1_11 a1_12)) else (hushref16_Same.j0 k true a0_0 a0_1 a0_2 a0_3 a0_4 a0_5 a0_6 a0_7 a0_8 a0_9 l0_10 a0_11 a0_12 a1_0 a1_1 a1_2 a1_3 a1_4 a1_5 a1_6 a1_7 a1_8 a1_9 l1_10 a1_11 a1_12)) else (hushref16_Same.j0 k true a0_0 a0_1 a0_2 a0_3 a0_4 a0_5 a0_6 a0_7 a0_8 a0_9 l0_10 a0_11 a0_12 a1_0 a1_1 a1_2 a1_3 a1_4 a1_5 a1_6 a1_7 a1_8 a1_9 l1_10 a1_11 a1_12)) _)
  repeat' first
    | (with_reducible exact hushref16_Same.J0_is _ _ _ _ _ _ _ _ _ _ _ _ _ _ _ _ _ _ _ _ _ _ _ _ _ _ _)
    | (with_reducible exact LimIs.const _)
    | (with_reducible refine LimIs.ite ?_ ?_)
    | (with_reducible refine LimIs.bind ?_ (fun _ => ?_))
    | exact hushref16_Same.J0_is _ _ _ _ _ _ _ _ _ _ _ _ _ _ _ _ _ _ _ _ _ _ _ _ _ _ _
    | exact LimIs.const _
    | refine LimIs.ite ?_ ?_
    | refine LimIs.bind ?_ (fun _ => ?_)
end Go.Proofs.Ytdfeidpkdbleaaa.PC
end
section
namespace Go.Proofs.Ytdfeidpkdbleaaa.PC
open Go.RowKit Go.Proofs.YtdfeidpkdbleaaaW.PrintWords Go.Proofs.YtdfeidpkdbleaaaW.PrintLast Go.Proofs.YtdfeidpkdbleaaaW.PrintMore
open Go.Proofs.YtdfeidpkdbleaaaW.EvKit
set_option linter.unusedVariables false
end Go.Proofs.Ytdfeidpkdbleaaa.PC
end
section
namespace Go.Proofs.Ytdfeidpkdbleaaa.PC
open Go.RowKit Go.Proofs.YtdfeidpkdbleaaaW.PrintWords Go.Proofs.YtdfeidpkdbleaaaW.PrintLast Go.Proofs.YtdfeidpkdbleaaaW.PrintMore
open Go.Proofs.YtdfeidpkdbleaaaW.EvKit
set_option linter.unusedVariables false
noncomputable def hushlaw16_WirePacks.J0 (x1 : ByteArray) (x28 : Bool) : Option (Bool) := lim (fun k => hushlaw16_WirePacks.j0 k x1 x28)
theorem hushlaw16_WirePacks.J0_is (x1 : ByteArray) (x28 : Bool) : LimIs (fun k => hushlaw16_WirePacks.j0 k x1 x28) (hushlaw16_WirePacks.J0 x1 x28) := ⟨fun k => (hushlaw16_WirePacks.mono_l k).1 x1 x28, rfl⟩
noncomputable def hushlaw16_WirePacks.J1 (x1 : ByteArray) (x47 : Bool) : Option (Bool) := lim (fun k => hushlaw16_WirePacks.j1 k x1 x47)
theorem hushlaw16_WirePacks.J1_is (x1 : ByteArray) (x47 : Bool) : LimIs (fun k => hushlaw16_WirePacks.j1 k x1 x47) (hushlaw16_WirePacks.J1 x1 x47) := ⟨fun k => (hushlaw16_WirePacks.mono_l k).2 x1 x47, rfl⟩
noncomputable def hushlaw16_WirePacks.F (a0_0 : Int) (a0_1 : ByteArray) (a0_2 : Int) (a0_3 : ByteArray) (a0_4 : ByteArray) (a0_5 : Int) (a0_6 : Int) (a0_7 : Int) (a0_8 : Int) (a0_9 : Int) (l0_10 : List Int) (a0_11 : Int) (a0_12 : Int) (a1 : ByteArray) : Option (Bool) := lim (fun k => hushlaw16_WirePacks.f k a0_0 a0_1 a0_2 a0_3 a0_4 a0_5 a0_6 a0_7 a0_8 a0_9 l0_10 a0_11 a0_12 a1)
theorem hushlaw16_WirePacks.F_is (a0_0 : Int) (a0_1 : ByteArray) (a0_2 : Int) (a0_3 : ByteArray) (a0_4 : ByteArray) (a0_5 : Int) (a0_6 : Int) (a0_7 : Int) (a0_8 : Int) (a0_9 : Int) (l0_10 : List Int) (a0_11 : Int) (a0_12 : Int) (a1 : ByteArray) : LimIs (fun k => hushlaw16_WirePacks.f k a0_0 a0_1 a0_2 a0_3 a0_4 a0_5 a0_6 a0_7 a0_8 a0_9 l0_10 a0_11 a0_12 a1) (hushlaw16_WirePacks.F a0_0 a0_1 a0_2 a0_3 a0_4 a0_5 a0_6 a0_7 a0_8 a0_9 l0_10 a0_11 a0_12 a1) := ⟨fun k => hushlaw16_WirePacks.mono a0_0 a0_1 a0_2 a0_3 a0_4 a0_5 a0_6 a0_7 a0_8 a0_9 l0_10 a0_11 a0_12 a1 k, rfl⟩
set_option maxRecDepth 100000 in
theorem hushlaw16_WirePacks.J0_eq (x1 : ByteArray) (x28 : Bool) : hushlaw16_WirePacks.J0 x1 x28 = if x28 = true then (some false) else ((wire_Unpack.F x1).bind fun bt229 => ((hushref16_Unpack.F x1).bind fun bt246 => ((hushref16_Same.F bt229.1 bt229.2.1 bt229.2.2.1 bt229.2.2.2.1 bt229.2.2.2.2.1 bt229.2.2.2.2.2.1 bt229.2.2.2.2.2.2.1 bt229.2.2.2.2.2.2.2.1 bt229.2.2.2.2.2.2.2.2.1 bt229.2.2.2.2.2.2.2.2.2.1 bt229.2.2.2.2.2.2.2.2.2.2.1 bt229.2.2.2.2.2.2.2.2.2.2.2.1 bt229.2.2.2.2.2.2.2.2.2.2.2.2.1 bt246.1 bt246.2.1 bt246.2.2.1 bt246.2.2.2.1 bt246.2.2.2.2.1 bt246.2.2.2.2.2.1 bt246.2.2.2.2.2.2.1 bt246.2.2.2.2.2.2.2.1 bt246.2.2.2.2.2.2.2.2.1 bt246.2.2.2.2.2.2.2.2.2.1 bt246.2.2.2.2.2.2.2.2.2.2.1 bt246.2.2.2.2.2.2.2.2.2.2.2.1 bt246.2.2.2.2.2.2.2.2.2.2.2.2.1).bind fun t263 => (if t263 = true then (hushlaw16_WirePacks.J1 x1 (bt229.2.2.2.2.2.2.2.2.2.2.2.2.2 != bt246.2.2.2.2.2.2.2.2.2.2.2.2.2)) else (hushlaw16_WirePacks.J1 x1 true))))) := by
  refine LimIs.step' (hushlaw16_WirePacks.J0_is x1 x28).1 (b := fun k => if x28 = true then (some false) else ((wire_Unpack.f k x1).bind fun bt229 => ((hushref16_Unpack.f k x1).bind fun bt246 => ((hushref16_Same.f k bt229.1 bt229.2.1 bt229.2.2.1 bt229.2.2.2.1 bt229.2.2.2.2.1 bt229.2.2.2.2.2.1 bt229.2.2.2.2.2.2.1 bt229.2.2.2.2.2.2.2.1 bt229.2.2.2.2.2.2.2.2.1 bt229.2.2.2.2.2.2.2.2.2.1 bt229.2.2.2.2.2.2.2.2.2.2.1 bt229.2.2.2.2.2.2.2.2.2.2.2.1 bt229.2.2.2.2.2.2.2.2.2.2.2.2.1 bt246.1 bt246.2.1 bt246.2.2.1 bt246.2.2.2.1 bt246.2.2.2.2.1 bt246.2.2.2.2.2.1 bt246.2.2.2.2.2.2.1 bt246.2.2.2.2.2.2.2.1 bt246.2.2.2.2.2.2.2.2.1 bt246.2.2.2.2.2.2.2.2.2.1 bt246.2.2.2.2.2.2.2.2.2.2.1 bt246.2.2.2.2.2.2.2.2.2.2.2.1 bt246.2.2.2.2.2.2.2.2.2.2.2.2.1).bind fun t263 => (if t263 = true then (hushlaw16_WirePacks.j1 k x1 (bt229.2.2.2.2.2.2.2.2.2.2.2.2.2 != bt246.2.2.2.2.2.2.2.2.2.2.2.2.2)) else (hushlaw16_WirePacks.j1 k x1 true)))))) (fun k => by first | rfl | rw [hushlaw16_WirePacks.j0]) ?_
  repeat' first
    | (with_reducible exact wire_Unpack.F_is _)
    | (with_reducible exact hushref16_Unpack.F_is _)
    | (with_reducible exact hushref16_Same.F_is _ _ _ _ _ _ _ _ _ _ _ _ _ _ _ _ _ _ _ _ _ _ _ _ _ _)
    | (with_reducible exact hushlaw16_WirePacks.J1_is _ _)
    | (with_reducible exact LimIs.const _)
    | (with_reducible refine LimIs.ite ?_ ?_)
    | (with_reducible refine LimIs.bind ?_ (fun _ => ?_))
    | exact wire_Unpack.F_is _
    | exact hushref16_Unpack.F_is _
    | exact hushref16_Same.F_is _ _ _ _ _ _ _ _ _ _ _ _ _ _ _ _ _ _ _ _ _ _ _ _ _ _
    | exact hushlaw16_WirePacks.J1_is _ _
    | exact LimIs.const _
    | refine LimIs.ite ?_ ?_
    | refine LimIs.bind ?_ (fun _ => ?_)
set_option maxRecDepth 100000 in
theorem hushlaw16_WirePacks.J1_eq (x1 : ByteArray) (x47 : Bool) : hushlaw16_WirePacks.J1 x1 x47 = if x47 = true then (some false) else ((wire_Frame.f x1).bind fun bt264 => ((hushref16_Frame.f x1).bind fun bt266 => (if bt264.1.toList = bt266.1.toList then (some (bt264.2 == bt266.2)) else (some false)))) := by
  refine LimIs.step' (hushlaw16_WirePacks.J1_is x1 x47).1 (b := fun k => if x47 = true then (some false) else ((wire_Frame.f x1).bind fun bt264 => ((hushref16_Frame.f x1).bind fun bt266 => (if bt264.1.toList = bt266.1.toList then (some (bt264.2 == bt266.2)) else (some false))))) (fun k => by first | rfl | rw [hushlaw16_WirePacks.j1]) ?_
  repeat' first
    | (with_reducible exact LimIs.const _)
    | (with_reducible refine LimIs.ite ?_ ?_)
    | (with_reducible refine LimIs.bind ?_ (fun _ => ?_))
    | exact LimIs.const _
    | refine LimIs.ite ?_ ?_
    | refine LimIs.bind ?_ (fun _ => ?_)
set_option maxRecDepth 100000 in
theorem hushlaw16_WirePacks.F_eq (a0_0 : Int) (a0_1 : ByteArray) (a0_2 : Int) (a0_3 : ByteArray) (a0_4 : ByteArray) (a0_5 : Int) (a0_6 : Int) (a0_7 : Int) (a0_8 : Int) (a0_9 : Int) (l0_10 : List Int) (a0_11 : Int) (a0_12 : Int) (a1 : ByteArray) : hushlaw16_WirePacks.F a0_0 a0_1 a0_2 a0_3 a0_4 a0_5 a0_6 a0_7 a0_8 a0_9 l0_10 a0_11 a0_12 a1 = (wire_Pack.f a0_0 a0_1 a0_2 a0_3 a0_4 a0_5 a0_6 a0_7 a0_8 a0_9 l0_10 a0_11 a0_12).bind fun bt225 => ((hushref16_Pack.F a0_0 a0_1 a0_2 a0_3 a0_4 a0_5 a0_6 a0_7 a0_8 a0_9 l0_10 a0_11 a0_12).bind fun bt227 => (if bt225.1.toList = bt227.1.toList then (hushlaw16_WirePacks.J0 a1 (bt225.2 != bt227.2)) else (hushlaw16_WirePacks.J0 a1 true))) := by
  refine LimIs.out (?_ : LimIs (fun k => (wire_Pack.f a0_0 a0_1 a0_2 a0_3 a0_4 a0_5 a0_6 a0_7 a0_8 a0_9 l0_10 a0_11 a0_12).bind fun bt225 => ((hushref16_Pack.f k a0_0 a0_1 a0_2 a0_3 a0_4 a0_5 a0_6 a0_7 a0_8 a0_9 l0_10 a0_11 a0_12).bind fun bt227 => (if bt225.1.toList = bt227.1.toList then (hushlaw16_WirePacks.j0 k a1 (bt225.2 != bt227.2)) else (hushlaw16_WirePacks.j0 k a1 true)))) _)
  repeat' first
    | (with_reducible exact hushref16_Pack.F_is _ _ _ _ _ _ _ _ _ _ _ _ _)
    | (with_reducible exact hushlaw16_WirePacks.J0_is _ _)
    | (with_reducible exact LimIs.const _)
    | (with_reducible refine LimIs.ite ?_ ?_)
    | (with_reducible refine LimIs.bind ?_ (fun _ => ?_))
    | exact hushref16_Pack.F_is _ _ _ _ _ _ _ _ _ _ _ _ _
    | exact hushlaw16_WirePacks.J0_is _ _
    | exact LimIs.const _
    | refine LimIs.ite ?_ ?_
    | refine LimIs.bind ?_ (fun _ => ?_)
end Go.Proofs.Ytdfeidpkdbleaaa.PC
end
section
namespace Go.Proofs.Ytdfeidpkdbleaaa.Pure
set_option linter.unusedVariables false
set_option linter.unusedSimpArgs false
open Go.RowKit Go.Proofs.Ytdfeidpkdbleaaa.PC Go.Proofs.YtdfeidpkdbleaaaW.PrintWords Go.Proofs.YtdfeidpkdbleaaaW.PrintLast Go.Proofs.YtdfeidpkdbleaaaW.PrintMore Go.Proofs.YtdfeidpkdbleaaaW.EvKit
variable {a0 : Int} {a1 : ByteArray} {a2 : Int} {a3 a4 : ByteArray} {a5 a6 a7 a8 a9 : Int} {l10 : List Int} {a11 a12 : Int}
theorem same_loop2 (hl : l10.length ≤ 1048576) : ∀ (rest : List Int) (i : Nat), l10.drop i = rest → hushref16_Same.L0 (l10.length : Int) (i : Int) a0 a1 a2 a3 a4 a5 a6 a7 a8 a9 l10 a11 a12 a0 a1 a2 a3 a4 a5 a6 a7 a8 a9 l10 a11 a12 = some true
  | [], i, h => by
    have := congrArg List.length h
    rw [List.length_drop] at this
    simp at this
    rw [hushref16_Same.L0_eq, if_neg (by omega)]
  | v :: rest, i, h => by
    obtain ⟨e1, e2, e3⟩ := getD_drop l10 0 i v rest h
    rw [hushref16_Same.L0_eq, if_pos (by omega), if_pos (by omega), if_pos (by omega), if_pos (by omega), if_pos rfl, wrap64_of (by omega) (by omega), castS]
    exact same_loop2 hl rest (i + 1) e3
theorem same_self2 (hl : l10.length ≤ 1048576) : hushref16_Same.F a0 a1 a2 a3 a4 a5 a6 a7 a8 a9 l10 a11 a12 a0 a1 a2 a3 a4 a5 a6 a7 a8 a9 l10 a11 a12 = some true := by
  have e1 : (!(a5 == a5) || (!(a6 == a6))) = false := by simp
  have e2 : (!(a11 == a11) || (!(a12 == a12))) = false := by simp
  have e3 : ((l10.length : Int) != (l10.length : Int)) = false := by simp
  rw [hushref16_Same.F_eq, if_pos rfl, if_pos rfl, if_pos rfl, if_pos rfl, if_pos rfl, e1, if_neg (by decide), if_pos rfl, if_pos rfl, if_pos rfl, e2, if_neg (by decide), e3, hushref16_Same.J0_eq, if_neg (by decide)]
  exact same_loop2 hl l10 0 rfl
end Go.Proofs.Ytdfeidpkdbleaaa.Pure
end
section
namespace Go.Proofs.Ytdfeidpkdbleaaa.Pure
set_option linter.unusedVariables false
set_option linter.unusedSimpArgs false
open Go.Proofs.Ytdfeidpkdbleaaa.PC
def cnt (z : Bool) : Nat → List UInt8 → Option (Nat × List UInt8)
  | _, [] => none
  | 0, c :: l => if c.toNat = 1 then some (1, l) else none
  | g + 1, c :: l => if c.toNat = 0 ∧ z = false then none else if c.toNat < 128 then some (c.toNat, l) else (cnt false g l).bind fun q => some (c.toNat - 128 + 128 * q.1, q.2)
theorem cnt_inv : ∀ (g f : Nat) (z : Bool) (l : List UInt8) (n : Nat) (r : List UInt8), cnt z g l = some (n, r) → g ≤ f → l = uv f n ++ r ∧ n < 2 * 128 ^ g ∧ (n ≠ 0 ∨ z = true)
  | _, _, _, [], _, _, h, _ => by simp [cnt] at h
  | 0, f, z, c :: l, n, r, h, hg => by
    rw [cnt] at h
    split at h
    · rename_i hc
      injection h with h
      injection h with h1 h2
      subst h1
      subst h2
      have e : uv f 1 = [1] := by cases f <;> rfl
      have ec : c = 1 := UInt8.toNat_inj.mp hc
      rw [e, ec]
      exact ⟨rfl, by omega, .inl (by omega)⟩
    · cases h
  | g + 1, f, z, c :: l, n, r, h, hg => by
    have hc256 := c.toNat_lt
    rw [cnt] at h
    split at h
    · cases h
    · rename_i hz
      split at h
      · rename_i hc
        injection h with h
        injection h with h1 h2
        subst h2
        have e : uv f n = [UInt8.ofNat n] := by cases f with | zero => rfl | succ f => rw [uv, if_pos (by omega)]
        have ec : UInt8.ofNat n = c := UInt8.toNat_inj.mp (by rw [UInt8.toNat_ofNat']; omega)
        rw [e, ec]
        refine ⟨rfl, ?_, ?_⟩
        · have : 0 < 128 ^ g := Nat.pos_of_neZero _
          rw [Nat.pow_succ]; omega
        · cases z with
          | true => exact .inr rfl
          | false => exact .inl (fun h0 => hz ⟨by omega, rfl⟩)
      · rename_i hc
        obtain ⟨⟨m, r'⟩, hm, h⟩ := Option.bind_eq_some_iff.mp h
        injection h with h
        injection h with h1 h2
        dsimp only at h1 h2
        subst h2
        cases f with
        | zero => omega
        | succ f =>
          obtain ⟨i1, i2, i3⟩ := cnt_inv g f false l m r' hm (by omega)
          have hm0 : m ≠ 0 := by rcases i3 with i3 | i3; exact i3; cases i3
          have e1 : n % 128 + 128 = c.toNat := by omega
          have e2 : n / 128 = m := by omega
          refine ⟨?_, by rw [Nat.pow_succ]; omega, .inl (by omega)⟩
          rw [uv, if_neg (by omega), e1, e2, List.cons_append, ← i1]
          congr 1
          exact UInt8.toNat_inj.mp (by rw [UInt8.toNat_ofNat']; omega)
theorem cnt_short : ∀ (g : Nat) (z : Bool) (l : List UInt8) (n : Nat) (r : List UInt8), cnt z g l = some (n, r) → r.length < l.length := by
  intro g z l n r h
  obtain ⟨h1, _⟩ := cnt_inv g g z l n r h (Nat.le_refl _)
  rw [h1, List.length_append]
  have : 0 < (uv g n).length := by cases g with | zero => simp [uv] | succ g => rw [uv]; split <;> simp
  omega
def unzz (n : Nat) : Int := if n % 2 = 0 then ((n / 2 : Nat) : Int) else -((n / 2 : Nat) : Int) - 1
theorem zz_unzz (n : Nat) : zz (unzz n) = n := by
  unfold unzz zz
  split <;> split <;> omega
theorem unzz_rng {n : Nat} (h : n < 18446744073709551616) : -9223372036854775808 ≤ unzz n ∧ unzz n ≤ 9223372036854775807 := by
  unfold unzz
  split <;> omega
def num (l : List UInt8) : Option (Int × List UInt8) := (cnt true 9 l).bind fun q => some (unzz q.1, q.2)
def txt (l : List UInt8) : Option (ByteArray × List UInt8) := (cnt true 9 l).bind fun q => if q.1 ≤ q.2.length then some (⟨(q.2.take q.1).toArray⟩, q.2.drop q.1) else none
theorem cnt_inv10 {l : List UInt8} {n : Nat} {r : List UInt8} (h : cnt true 9 l = some (n, r)) : l = uv 10 n ++ r ∧ n < 18446744073709551616 := by
  obtain ⟨h1, h2, _⟩ := cnt_inv 9 10 true l n r h (by omega)
  exact ⟨h1, by omega⟩
theorem num_inv {l : List UInt8} {a : Int} {r : List UInt8} (h : num l = some (a, r)) : l = pk_num_ a ++ r ∧ -9223372036854775808 ≤ a ∧ a ≤ 9223372036854775807 := by
  obtain ⟨⟨n, r'⟩, hn, h⟩ := Option.bind_eq_some_iff.mp h
  injection h with h
  injection h with h1 h2
  dsimp only at h1 h2
  subst h1
  subst h2
  obtain ⟨i1, i2⟩ := cnt_inv10 hn
  rw [pk_num_, zz_unzz]
  exact ⟨i1, unzz_rng i2⟩
theorem num_short {l : List UInt8} {a : Int} {r : List UInt8} (h : num l = some (a, r)) : r.length < l.length := by
  obtain ⟨⟨n, r'⟩, hn, h⟩ := Option.bind_eq_some_iff.mp h
  injection h with h
  injection h with h1 h2
  dsimp only at h2
  subst h2
  exact cnt_short _ _ _ _ _ hn
theorem txt_inv {l : List UInt8} {s : ByteArray} {r : List UInt8} (h : txt l = some (s, r)) : l = pk_text_ s ++ r ∧ s.size < 18446744073709551616 := by
  obtain ⟨⟨n, r'⟩, hn, h⟩ := Option.bind_eq_some_iff.mp h
  split at h
  · rename_i hle
    injection h with h
    injection h with h1 h2
    dsimp only at h1 h2 hle
    subst h1
    subst h2
    obtain ⟨i1, i2⟩ := cnt_inv10 hn
    have e : (⟨(List.take n r').toArray⟩ : ByteArray).size = n := by show (List.take n r').toArray.size = n; rw [List.size_toArray, List.length_take]; omega
    rw [pk_text_, e, List.append_assoc]
    refine ⟨?_, i2⟩
    rw [i1]
    congr 1
    exact (List.take_append_drop n r').symm
  · cases h
def vals : Nat → List UInt8 → Option (List Int × List UInt8)
  | 0, l => some ([], l)
  | n + 1, l => (num l).bind fun q => (vals n q.2).bind fun p => some (q.1 :: p.1, p.2)
theorem vals_inv : ∀ (n : Nat) (l : List UInt8) (vs : List Int) (r : List UInt8), vals n l = some (vs, r) → l = vs.flatMap pk_num_ ++ r ∧ vs.length = n ∧ (∀ v ∈ vs, -9223372036854775808 ≤ v ∧ v ≤ 9223372036854775807)
  | 0, l, vs, r, h => by
    injection h with h
    injection h with h1 h2
    subst h1
    subst h2
    exact ⟨rfl, rfl, by simp⟩
  | n + 1, l, vs, r, h => by
    obtain ⟨⟨a, r1⟩, ha, h⟩ := Option.bind_eq_some_iff.mp h
    obtain ⟨⟨ws, r2⟩, hw, h⟩ := Option.bind_eq_some_iff.mp h
    injection h with h
    injection h with h1 h2
    dsimp only at h1 h2 hw
    subst h1
    subst h2
    obtain ⟨i1, i2⟩ := num_inv ha
    obtain ⟨j1, j2, j3⟩ := vals_inv n r1 ws r2 hw
    refine ⟨by rw [i1, j1, List.flatMap_cons, List.append_assoc], by simp [j2], ?_⟩
    intro v hv
    rcases List.mem_cons.mp hv with h | h
    · rw [h]; exact i2
    · exact j3 v h
end Go.Proofs.Ytdfeidpkdbleaaa.Pure
end
section
namespace Go.Proofs.Ytdfeidpkdbleaaa.Pure
set_option linter.unusedVariables false
set_option linter.unusedSimpArgs false
open Go.RowKit Go.Proofs.Ytdfeidpkdbleaaa.PC Go.Proofs.YtdfeidpkdbleaaaW.PrintWords Go.Proofs.YtdfeidpkdbleaaaW.PrintLast Go.Proofs.YtdfeidpkdbleaaaW.PrintMore
def B (l : List UInt8) : ByteArray := ⟨l.toArray⟩
theorem B_size (l : List UInt8) : (B l).size = l.length := rfl
theorem B_data (l : List UInt8) : (B l).data.toList = l := rfl
theorem B_self (s : ByteArray) : B s.data.toList = s := rfl
theorem B_toList (l : List UInt8) : (B l).toList = l := ByteArray.toList_eq _
theorem B_app (a b : List UInt8) : B a ++ B b = B (a ++ b) := by
  apply ByteArray.ext
  show (B a ++ B b).data = _
  rw [ByteArray.data_append]
  exact (List.append_toArray a b)
theorem B_nums (xs : List Int) : strOfNums xs = B (xs.map fun n => UInt8.ofNat n.toNat) := rfl
theorem B_of_data {s : ByteArray} {l : List UInt8} (h : s.data.toList = l) : s = B l := by rw [← h]; rfl
theorem B_extract (l : List UInt8) (i j : Nat) : (B l).extract i j = B ((l.drop i).take (j - i)) := by
  apply B_of_data
  have h := Lib.extract_toList (B l) i j
  rw [ByteArray.toList_eq, B_data] at h
  exact h
theorem B_bt (c : UInt8) (l : List UInt8) : bt (B (c :: l)) 0 = (c.toNat : Int) := rfl
theorem B_bt_at (l : List UInt8) (i : Nat) (c : UInt8) (r : List UInt8) (h : l.drop i = c :: r) : bt (B l) (i : Int) = (c.toNat : Int) ∧ i < l.length := by
  have hi : i < l.length := by
    rcases Nat.lt_or_ge i l.length with hi | hi
    · exact hi
    · rw [List.drop_eq_nil_of_le hi] at h; cases h
  refine ⟨?_, hi⟩
  rw [List.drop_eq_getElem_cons hi] at h
  injection h with h1 h2
  unfold bt
  rw [Int.toNat_natCast, dif_pos (show i < (B l).size from hi)]
  rw [← h1]
  rfl
theorem u64_of {x : Int} (h0 : 0 ≤ x) (h1 : x < 18446744073709551616) : IntKind.u64.wrap x = x := by rw [pk_wrap_u64]; omega
theorem wraps_u64 (n : Int) (h0 : 0 ≤ n) (h1 : n < 2 ^ 64) : IntKind.u64.wrap n = n := u64_of h0 (by omega)
theorem and127 (c : UInt8) : Go.bits .and .u8 (c.toNat : Int) 127 = ((c.toNat % 128 : Nat) : Int) := by
  have h := bits_mask .u8 8 (by decide) wraps_u8 7 (by decide) (c.toNat : Int) (by omega) (by have := c.toNat_lt; omega)
  have e : ((2 : Int) ^ 7 - 1) = 127 := by decide
  rw [e] at h
  rw [h]
  omega
theorem and1 (n : Nat) (hn : n < 18446744073709551616) : Go.bits .and .u64 (n : Int) 1 = ((n % 2 : Nat) : Int) := by
  have h := bits_mask .u64 64 (by decide) wraps_u64 1 (by decide) (n : Int) (by omega) (by omega)
  have e : ((2 : Int) ^ 1 - 1) = 1 := by decide
  rw [e] at h
  rw [h]
  omega
theorem or_part (i : Nat) (hi : i ≤ 9) (acc : Nat) (ha : acc < 2 ^ (7 * i)) (x : Nat) (hx : x * 2 ^ (7 * i) < 18446744073709551616) :
    Go.bits .or .u64 (acc : Int) (shl .u64 (IntKind.u64.wrap (x : Int)) (7 * (i : Int))) = ((acc + x * 2 ^ (7 * i) : Nat) : Int) := by
  have hp : 0 < 2 ^ (7 * i) := Nat.two_pow_pos _
  have hx1 : x < 18446744073709551616 := Nat.lt_of_le_of_lt (Nat.le_mul_of_pos_right x hp) hx
  have e1 : IntKind.u64.wrap (x : Int) = x := u64_of (by omega) (by omega)
  have e2 : (7 * (i : Int)).toNat = 7 * i := by omega
  have e3 : min (7 * i) IntKind.u64.bits = 7 * i := by show min (7 * i) 64 = 7 * i; omega
  have e4 : shl .u64 (x : Int) (7 * (i : Int)) = ((x * 2 ^ (7 * i) : Nat) : Int) := by
    unfold shl
    rw [e2, e3]
    have e5 : (x : Int) * 2 ^ (7 * i) = ((x * 2 ^ (7 * i) : Nat) : Int) := by push_cast; rfl
    rw [e5]
    exact u64_of (by omega) (by omega)
  rw [e1, e4]
  have hc : Go.bits .or .u64 (acc : Int) ((x * 2 ^ (7 * i) : Nat) : Int) = Go.bits .or .u64 ((x * 2 ^ (7 * i) : Nat) : Int) (acc : Int) := by
    unfold Go.bits
    simp only [BitVec.or_comm]
  have ha64 : acc < 18446744073709551616 := by
    have : 2 ^ (7 * i) ≤ 2 ^ 63 := Nat.pow_le_pow_right (by decide) (by omega)
    omega
  have hm : ((x * 2 ^ (7 * i) : Nat) : Int) % 2 ^ (7 * i) = 0 := by
    have e5 : ((2 : Int) ^ (7 * i)) = ((2 ^ (7 * i) : Nat) : Int) := by push_cast; rfl
    rw [e5, ← Int.natCast_emod, Nat.mul_mod_left]
    rfl
  have hlt : (acc : Int) < 2 ^ (7 * i) := by
    have e5 : ((2 : Int) ^ (7 * i)) = ((2 ^ (7 * i) : Nat) : Int) := by push_cast; rfl
    rw [e5]
    omega
  rw [hc, bits_join .u64 64 (by decide) wraps_u64 (7 * i) _ _ (by omega) hm (by omega) (by omega) hlt (by omega)]
  omega
theorem xor_zz (n : Nat) (hn : n < 18446744073709551616) : Go.bits .xor .i64 (wrap64 ((n : Int) / 2)) (wrap64 (-(wrap64 ((n % 2 : Nat) : Int)))) = if n % 2 = 0 then ((n / 2 : Nat) : Int) else -((n / 2 : Nat) : Int) - 1 := by
  have e1 : wrap64 ((n : Int) / 2) = ((n / 2 : Nat) : Int) := by unfold wrap64; omega
  have hl : n / 2 < 9223372036854775808 := by omega
  rw [e1]
  generalize n / 2 = a at hl ⊢
  rcases Nat.mod_two_eq_zero_or_one n with h | h
  · rw [h, if_pos rfl]
    have e2 : wrap64 (-(wrap64 ((0 : Nat) : Int))) = 0 := by decide +kernel
    rw [e2]
    unfold Go.bits
    have : (BitVec.ofInt IntKind.i64.bits (a : Int) ^^^ BitVec.ofInt IntKind.i64.bits 0).toNat = a := by
      show (BitVec.ofInt 64 (a : Int) ^^^ BitVec.ofInt 64 0).toNat = a
      rw [show BitVec.ofInt 64 0 = 0#64 from by decide, BitVec.xor_zero, BitVec.ofInt_natCast, BitVec.toNat_ofNat]
      omega
    simp only []
    rw [this, IntKind.wrap_i64]
    omega
  · rw [h, if_neg (by decide)]
    have e2 : wrap64 (-(wrap64 ((1 : Nat) : Int))) = -1 := by decide +kernel
    rw [e2]
    unfold Go.bits
    have : (BitVec.ofInt IntKind.i64.bits (a : Int) ^^^ BitVec.ofInt IntKind.i64.bits (-1)).toNat = 18446744073709551615 - a := by
      show (BitVec.ofInt 64 (a : Int) ^^^ BitVec.ofInt 64 (-1)).toNat = _
      rw [show BitVec.ofInt 64 (-1) = BitVec.allOnes 64 from by decide, BitVec.xor_allOnes, BitVec.toNat_not, BitVec.ofInt_natCast, BitVec.toNat_ofNat]
      omega
    simp only []
    rw [this, IntKind.wrap_i64]
    omega
end Go.Proofs.Ytdfeidpkdbleaaa.Pure
end
section
namespace Go.Proofs.Ytdfeidpkdbleaaa.Pure
set_option linter.unusedVariables false
set_option linter.unusedSimpArgs false
open Go.RowKit Go.Proofs.Ytdfeidpkdbleaaa.PC Go.Proofs.YtdfeidpkdbleaaaW.PrintWords Go.Proofs.YtdfeidpkdbleaaaW.PrintLast Go.Proofs.YtdfeidpkdbleaaaW.PrintMore Go.Proofs.YtdfeidpkdbleaaaW.EvKit
theorem byte_nil (d : Bool) : wire_unpacker_byte.f (B []) d = some (0, B [], true) := by
  unfold wire_unpacker_byte.f
  rw [B_toList, if_pos rfl]
theorem byte_cons (c : UInt8) (l : List UInt8) (d : Bool) : wire_unpacker_byte.f (B (c :: l)) d = some ((c.toNat : Int), B l, d) := by
  unfold wire_unpacker_byte.f
  rw [B_toList, if_neg (by simp), B_size, if_pos (by simp only [List.length_cons]; omega), if_pos (by simp only [List.length_cons]; omega), B_bt, B_extract]
  simp
def Bad {α : Type} (F : ByteArray → Bool → Option (α × ByteArray × Bool)) : Prop := ∀ l, ∃ x l', F (B l) true = some (x, B l', true)
def Good {α : Type} (F : ByteArray → Bool → Option (α × ByteArray × Bool)) (P : List UInt8 → Option (α × List UInt8)) : Prop :=
  ∀ l, (∀ x r, P l = some (x, r) → F (B l) false = some (x, B r, false)) ∧ (P l = none → ∃ x l', F (B l) false = some (x, B l', true))
theorem count_bad : Bad wire_unpacker_count.F := by
  intro l
  cases l with
  | nil => exact ⟨0, [], by rw [wire_unpacker_count.F_eq, wire_unpacker_count.L0_eq, byte_nil, Option.bind_some, if_pos rfl, wire_unpacker_count.J1_eq, if_pos rfl]⟩
  | cons c l => exact ⟨0, l, by rw [wire_unpacker_count.F_eq, wire_unpacker_count.L0_eq, byte_cons, Option.bind_some, if_pos rfl, wire_unpacker_count.J1_eq, if_pos rfl]⟩
set_option maxRecDepth 100000 in
theorem count_step : ∀ (g i : Nat) (l : List UInt8) (acc : Nat), i + g = 9 → acc < 2 ^ (7 * i) →
    (∀ n r, cnt (decide (i = 0)) g l = some (n, r) → wire_unpacker_count.L0 (acc : Int) (7 * (i : Int)) (B l) false = some (((acc + n * 2 ^ (7 * i) : Nat) : Int), B r, false)) ∧
    (cnt (decide (i = 0)) g l = none → ∃ x l', wire_unpacker_count.L0 (acc : Int) (7 * (i : Int)) (B l) false = some (x, B l', true) ∧ 0 ≤ x ∧ x < 18446744073709551616)
  | g, i, [], acc, hg, ha => by
    have e : cnt (decide (i = 0)) g [] = none := by cases g <;> rfl
    refine ⟨fun n r h => (by rw [e] at h; cases h), fun _ => ⟨0, [], ?_, by omega, by omega⟩⟩
    rw [wire_unpacker_count.L0_eq, byte_nil, Option.bind_some, if_pos rfl, wire_unpacker_count.J1_eq, if_pos rfl]
  | 0, i, c :: l, acc, hg, ha => by
    have hi : i = 9 := by omega
    subst hi
    have hc := c.toNat_lt
    have e0 : wire_unpacker_count.L0 (acc : Int) (7 * ((9 : Nat) : Int)) (B (c :: l)) false = wire_unpacker_count.J1 (acc : Int) (7 * ((9 : Nat) : Int)) (c.toNat : Int) (decide ((c.toNat : Int) > 1)) (B l) false := by
      rw [wire_unpacker_count.L0_eq, byte_cons, Option.bind_some]
      dsimp only
      rw [if_neg (by decide), if_pos (by omega)]
    rw [e0, cnt]
    by_cases h1 : c.toNat = 1
    · rw [if_pos h1]
      refine ⟨fun n r h => ?_, fun h => (by cases h)⟩
      injection h with h
      injection h with h2 h3
      subst h2
      subst h3
      have ed : decide ((c.toNat : Int) > 1) = false := decide_eq_false (by omega)
      rw [ed, wire_unpacker_count.J1_eq, if_neg (by decide), if_pos (by omega), if_pos (by omega), if_neg (by decide), if_neg (by omega), and127, h1, or_part 9 (by omega) acc ha 1 (by decide)]
    · rw [if_neg h1]
      refine ⟨fun n r h => (by cases h), fun _ => ?_⟩
      by_cases h2 : 1 < c.toNat
      · have ed : decide ((c.toNat : Int) > 1) = true := decide_eq_true (by omega)
        exact ⟨0, l, by rw [ed, wire_unpacker_count.J1_eq, if_pos rfl], by omega, by omega⟩
      · have h0 : c.toNat = 0 := by omega
        have ed : decide ((c.toNat : Int) > 1) = false := decide_eq_false (by omega)
        refine ⟨((acc + 0 * 2 ^ (7 * 9) : Nat) : Int), l, ?_, by omega, by omega⟩
        rw [ed, wire_unpacker_count.J1_eq, if_neg (by decide), if_pos (by omega), if_pos (by omega), if_neg (by decide), if_pos (by omega), and127, h0, or_part 9 (by omega) acc ha 0 (by decide)]
        have e9 : decide (7 * ((9 : Nat) : Int) > 0) = true := by decide
        rw [e9]
  | g + 1, i, c :: l, acc, hg, ha => by
    have hc := c.toNat_lt
    have hi : i ≤ 8 := by omega
    have e0 : wire_unpacker_count.L0 (acc : Int) (7 * (i : Int)) (B (c :: l)) false = wire_unpacker_count.J1 (acc : Int) (7 * (i : Int)) (c.toNat : Int) false (B l) false := by
      rw [wire_unpacker_count.L0_eq, byte_cons, Option.bind_some]
      dsimp only
      rw [if_neg (by decide), if_neg (by omega)]
    have hP : 2 ^ (7 * i) ≤ 2 ^ 56 := Nat.pow_le_pow_right (by decide) (by omega)
    have hT : c.toNat % 128 * 2 ^ (7 * i) ≤ 127 * 2 ^ 56 := Nat.mul_le_mul (by omega) hP
    have hor := or_part i (by omega) acc ha (c.toNat % 128) (by have : c.toNat % 128 * 2 ^ (7 * i) ≤ 127 * 2 ^ 56 := Nat.mul_le_mul (by omega) hP; omega)
    rw [e0, wire_unpacker_count.J1_eq, if_neg (by decide), if_pos (by omega), and127, hor, cnt]
    by_cases hlt : c.toNat < 128
    · have hm : c.toNat % 128 = c.toNat := by omega
      by_cases h0 : c.toNat = 0
      · by_cases hi0 : i = 0
        · have ed : decide (i = 0) = true := decide_eq_true hi0
          rw [ed, if_neg (by rintro ⟨_, h⟩; cases h), if_pos hlt]
          refine ⟨fun n r h => ?_, fun h => (by cases h)⟩
          injection h with h
          injection h with h2 h3
          subst h2
          subst h3
          rw [if_pos (by omega), if_neg (by decide), if_pos (by omega), hm]
          have ei : decide (7 * (i : Int) > 0) = false := decide_eq_false (by omega)
          rw [ei]
        · have ed : decide (i = 0) = false := decide_eq_false hi0
          rw [ed, if_pos ⟨h0, rfl⟩]
          refine ⟨fun n r h => (by cases h), fun _ => ⟨((acc + c.toNat % 128 * 2 ^ (7 * i) : Nat) : Int), l, ?_, by omega, by omega⟩⟩
          rw [if_pos (by omega), if_neg (by decide), if_pos (by omega)]
          have ei : decide (7 * (i : Int) > 0) = true := decide_eq_true (by omega)
          rw [ei]
      · rw [if_neg (by rintro ⟨h, _⟩; exact h0 h), if_pos hlt]
        refine ⟨fun n r h => ?_, fun h => (by cases h)⟩
        injection h with h
        injection h with h2 h3
        subst h2
        subst h3
        rw [if_pos (by omega), if_neg (by decide), if_neg (by omega), hm]
    · rw [if_neg (by rintro ⟨h, _⟩; omega), if_neg hlt, if_neg (by omega)]
      have hm : c.toNat % 128 = c.toNat - 128 := by omega
      have hs : 2 ^ (7 * (i + 1)) = 128 * 2 ^ (7 * i) := by rw [Nat.mul_add, Nat.pow_add]; omega
      have hacc : acc + c.toNat % 128 * 2 ^ (7 * i) < 2 ^ (7 * (i + 1)) := by
        have : c.toNat % 128 * 2 ^ (7 * i) ≤ 127 * 2 ^ (7 * i) := Nat.mul_le_mul (by omega) (Nat.le_refl _)
        rw [hs]
        omega
      obtain ⟨k1, k2⟩ := count_step g (i + 1) l (acc + c.toNat % 128 * 2 ^ (7 * i)) (by omega) hacc
      have ew : wrap64 (7 * (i : Int) + 7) = 7 * ((i + 1 : Nat) : Int) := by unfold wrap64; omega
      have ed : decide (i + 1 = 0) = false := rfl
      rw [ed] at k1 k2
      rw [ew]
      constructor
      · intro n r h
        obtain ⟨⟨m, r'⟩, hm', h⟩ := Option.bind_eq_some_iff.mp h
        injection h with h
        injection h with h2 h3
        dsimp only at h2 h3
        subst h2
        subst h3
        rw [k1 m r' hm']
        congr 2
        rw [hs, hm]
        have : (c.toNat - 128 + 128 * m) * 2 ^ (7 * i) = (c.toNat - 128) * 2 ^ (7 * i) + m * (128 * 2 ^ (7 * i)) := by rw [Nat.add_mul]; congr 1; rw [Nat.mul_comm 128 m, Nat.mul_assoc]
        omega
      · intro h
        refine k2 ?_
        cases hc' : cnt false g l with
        | none => rfl
        | some q => rw [hc'] at h; cases h
theorem count_val (l : List UInt8) : (∀ n r, cnt true 9 l = some (n, r) → wire_unpacker_count.F (B l) false = some ((n : Int), B r, false)) ∧ (cnt true 9 l = none → ∃ x l', wire_unpacker_count.F (B l) false = some (x, B l', true) ∧ 0 ≤ x ∧ x < 18446744073709551616) := by
  obtain ⟨h1, h2⟩ := count_step 9 0 l 0 rfl (by decide)
  have ed : decide ((0 : Nat) = 0) = true := rfl
  rw [ed] at h1 h2
  have e : wire_unpacker_count.F (B l) false = wire_unpacker_count.L0 ((0 : Nat) : Int) (7 * ((0 : Nat) : Int)) (B l) false := by rw [wire_unpacker_count.F_eq]; rfl
  rw [e]
  refine ⟨fun n r h => ?_, h2⟩
  rw [h1 n r h]
  simp
theorem q_rng {q : Nat} (h : q < 18446744073709551616) : 0 ≤ (q : Int) ∧ (q : Int) < 18446744073709551616 := ⟨by omega, by omega⟩
def cntI (l : List UInt8) : Option (Int × List UInt8) := (cnt true 9 l).bind fun q => some ((q.1 : Int), q.2)
theorem count_good : Good wire_unpacker_count.F cntI := by
  intro l
  obtain ⟨h1, h2⟩ := count_step 9 0 l 0 rfl (by decide)
  have e : wire_unpacker_count.F (B l) false = wire_unpacker_count.L0 ((0 : Nat) : Int) (7 * ((0 : Nat) : Int)) (B l) false := by rw [wire_unpacker_count.F_eq]; rfl
  rw [e]
  constructor
  · intro x r h
    obtain ⟨⟨n, r'⟩, hn, h⟩ := Option.bind_eq_some_iff.mp h
    injection h with h
    injection h with h3 h4
    dsimp only at h3 h4
    subst h3
    subst h4
    rw [h1 n r' hn]
    simp
  · intro h
    have hc : cnt true 9 l = none := by
      cases hc : cnt true 9 l with
      | none => rfl
      | some q => rw [cntI, hc] at h; cases h
    obtain ⟨x, l', hx, _⟩ := h2 hc
    exact ⟨x, l', hx⟩
theorem number_bad : Bad wire_unpacker_number.F := by
  intro l
  obtain ⟨x, l', h⟩ := count_bad l
  exact ⟨_, l', by rw [wire_unpacker_number.F_eq, h, Option.bind_some]⟩
theorem number_good : Good wire_unpacker_number.F num := by
  intro l
  obtain ⟨h1, h2⟩ := count_good l
  constructor
  · intro x r h
    obtain ⟨⟨n, r'⟩, hn, h⟩ := Option.bind_eq_some_iff.mp h
    injection h with h
    injection h with h3 h4
    dsimp only at h3 h4
    subst h3
    subst h4
    have hlt := (cnt_inv10 hn).2
    rw [wire_unpacker_number.F_eq, h1 (n : Int) r' (by rw [cntI, hn]; rfl), Option.bind_some]
    dsimp only
    rw [and1 n hlt, xor_zz n hlt]
    rfl
  · intro h
    obtain ⟨x, l', hx⟩ := h2 (by cases hc : cnt true 9 l with | none => rw [cntI, hc]; rfl | some q => rw [num, hc] at h; cases h)
    exact ⟨_, l', by rw [wire_unpacker_number.F_eq, hx, Option.bind_some]⟩
theorem text_bad : Bad wire_unpacker_text.F := by
  intro l
  obtain ⟨x, l', h⟩ := count_bad l
  exact ⟨_, l', by rw [wire_unpacker_text.F_eq, h, Option.bind_some, if_pos rfl]⟩
def GoodTo {α : Type} (M : Nat) (F : ByteArray → Bool → Option (α × ByteArray × Bool)) (P : List UInt8 → Option (α × List UInt8)) : Prop :=
  ∀ l, l.length ≤ M → (∀ x r, P l = some (x, r) → F (B l) false = some (x, B r, false) ∧ r.length ≤ M) ∧ (P l = none → ∃ x l', F (B l) false = some (x, B l', true))
theorem text_good : GoodTo 65536 wire_unpacker_text.F txt := by
  intro l hl
  obtain ⟨h1, h2⟩ := count_good l
  have hshort : ∀ n r, cnt true 9 l = some (n, r) → r.length < l.length := fun n r h => cnt_short _ _ _ _ _ h
  constructor
  · intro x r h
    obtain ⟨⟨n, r'⟩, hn, h⟩ := Option.bind_eq_some_iff.mp h
    have hs := hshort n r' hn
    split at h
    · rename_i hle
      injection h with h
      injection h with h3 h4
      dsimp only at h3 h4 hle
      subst h3
      subst h4
      refine ⟨?_, by rw [List.length_drop]; omega⟩
      rw [wire_unpacker_text.F_eq, h1 (n : Int) r' (by rw [cntI, hn]; rfl), Option.bind_some]
      dsimp only
      rw [if_neg (by decide), B_size, u64_of (by omega) (by omega), if_neg (by omega), if_pos (by omega), if_pos (by omega), Int.toNat_natCast, B_extract, B_extract]
      have e1 : List.take (r'.length - n) (List.drop n r') = List.drop n r' := List.take_of_length_le (by rw [List.length_drop]; omega)
      rw [e1, Nat.sub_zero, List.drop_zero]
      rfl
    · cases h
  · intro h
    cases hc : cnt true 9 l with
    | none =>
      obtain ⟨x, l', hx⟩ := h2 (by rw [cntI, hc]; rfl)
      exact ⟨_, l', by rw [wire_unpacker_text.F_eq, hx, Option.bind_some, if_pos rfl]⟩
    | some q =>
      obtain ⟨n, r'⟩ := q
      have hs := hshort n r' hc
      rw [txt, hc, Option.bind_some] at h
      dsimp only at h
      split at h
      · cases h
      · rename_i hle
        refine ⟨⟨#[]⟩, r', ?_⟩
        rw [wire_unpacker_text.F_eq, h1 (n : Int) r' (by rw [cntI, hc]; rfl), Option.bind_some]
        dsimp only
        rw [if_neg (by decide), B_size, u64_of (by omega) (by omega), if_pos (by omega)]
theorem GoodTo.of {α : Type} {M : Nat} {F : ByteArray → Bool → Option (α × ByteArray × Bool)} {P : List UInt8 → Option (α × List UInt8)} (h : Good F P) (hs : ∀ l x r, P l = some (x, r) → r.length ≤ l.length) : GoodTo M F P :=
  fun l hl => ⟨fun x r hx => ⟨(h l).1 x r hx, Nat.le_trans (hs l x r hx) hl⟩, (h l).2⟩
theorem number_goodTo : GoodTo 65536 wire_unpacker_number.F num := GoodTo.of number_good (fun l x r h => Nat.le_of_lt (num_short h))
def Ends (G : ByteArray → Bool → Option UnM) (Q : List UInt8 → Option UnM) : Prop :=
  (∀ l, G (B l) true = some (wire_Unpack.no 2)) ∧ (∀ l, l.length ≤ 65536 → G (B l) false = some ((Q l).getD (wire_Unpack.no 2)))
theorem ends_bind {α : Type} {F : ByteArray → Bool → Option (α × ByteArray × Bool)} {P : List UInt8 → Option (α × List UInt8)} {G : α × ByteArray × Bool → Option UnM} {Q : α × List UInt8 → Option UnM}
    (hb : Bad F) (hg : GoodTo 65536 F P) (h : ∀ x, Ends (fun b d => G (x, b, d)) (fun l => Q (x, l))) : Ends (fun b d => (F b d).bind G) (fun l => (P l).bind Q) := by
  constructor
  · intro l
    obtain ⟨x, l', hx⟩ := hb l
    simp only [hx, Option.bind_some]
    exact (h x).1 l'
  · intro l hl
    obtain ⟨h1, h2⟩ := hg l hl
    cases hp : P l with
    | none =>
      obtain ⟨x, l', hx⟩ := h2 hp
      simp only [hx, hp, Option.bind_some, Option.bind_none, Option.getD_none]
      exact (h x).1 l'
    | some z =>
      obtain ⟨x, r⟩ := z
      obtain ⟨hx, hr⟩ := h1 x r hp
      simp only [hx, hp, Option.bind_some]
      exact (h x).2 r hr
def finQ (m : UnM) (l : List UInt8) : Option UnM := if l = [] then some m else none
theorem ends_fin (m : UnM) : Ends (fun b d => wire_Unpack.fin b d m) (finQ m) := by
  constructor
  · intro l
    show wire_Unpack.fin (B l) true m = _
    rw [wire_Unpack.fin, if_pos rfl]
  · intro l _
    show wire_Unpack.fin (B l) false m = _
    rw [wire_Unpack.fin, if_neg (by decide), B_toList, finQ]
    by_cases h : l = []
    · rw [if_pos h, if_pos h]; rfl
    · rw [if_neg h, if_neg h]; rfl
theorem ends_ratio {G : Int × Int × ByteArray × Bool → Option UnM} {Q : Int → Int × List UInt8 → Option UnM} (h : ∀ x y, Ends (fun b d => G (x, y, b, d)) (fun l => Q x (y, l))) :
    Ends (fun b d => (wire_unpacker_ratio.F b d).bind G) (fun l => (num l).bind fun z => (num z.2).bind (Q z.1)) := by
  have e : (fun b d => (wire_unpacker_ratio.F b d).bind G) = (fun b d => (wire_unpacker_number.F b d).bind fun z => (wire_unpacker_number.F z.2.1 z.2.2).bind fun y => G (z.1, y.1, y.2.1, y.2.2)) := by
    funext b d
    rw [wire_unpacker_ratio.F_eq, Option.bind_assoc]
    congr 1
    funext z
    rw [Option.bind_assoc]
    congr 1
  rw [e]
  refine ends_bind number_bad number_goodTo fun x => ?_
  dsimp only
  refine ends_bind number_bad number_goodTo fun y => ?_
  dsimp only
  exact h x y
theorem loop_bad (n : Int) (l : List UInt8) (acc : List Int) : wire_Unpack.L0 n (B l) true acc = some (acc, B l, true) := by
  rw [wire_Unpack.L0_eq]
  split
  · rw [if_pos rfl]
  · rfl
theorem loop_good : ∀ (n : Nat) (l : List UInt8) (acc : List Int), l.length + acc.length ≤ 1048576 →
    (∀ vs r, vals n l = some (vs, r) → wire_Unpack.L0 (n : Int) (B l) false acc = some (acc ++ vs, B r, false) ∧ r.length ≤ l.length) ∧ (vals n l = none → ∃ x l', wire_Unpack.L0 (n : Int) (B l) false acc = some (x, B l', true))
  | 0, l, acc, hl => by
    refine ⟨fun vs r h => ?_, fun h => (by cases h)⟩
    injection h with h
    injection h with h1 h2
    subst h1
    subst h2
    rw [wire_Unpack.L0_eq, if_neg (by omega), List.append_nil]
    exact ⟨rfl, Nat.le_refl _⟩
  | n + 1, l, acc, hl => by
    obtain ⟨h1, h2⟩ := number_good l
    have e : wire_Unpack.L0 ((n + 1 : Nat) : Int) (B l) false acc = (wire_unpacker_number.F (B l) false).bind fun z => if acc.length < 17592186044416 then wire_Unpack.L0 (n : Int) z.2.1 z.2.2 (acc ++ [z.1]) else none := by
      rw [wire_Unpack.L0_eq, if_pos (by omega), if_neg (by decide)]
      have : ((n + 1 : Nat) : Int) - 1 = (n : Int) := by omega
      rw [this]
    rw [e]
    cases hn : num l with
    | none =>
      obtain ⟨x, l', hx⟩ := h2 hn
      refine ⟨fun vs r h => (by rw [vals, hn] at h; cases h), fun _ => ⟨acc ++ [x], l', ?_⟩⟩
      rw [hx, Option.bind_some, if_pos (by omega)]
      exact loop_bad _ _ _
    | some q =>
      obtain ⟨v, r1⟩ := q
      have hs := num_short hn
      obtain ⟨k1, k2⟩ := loop_good n r1 (acc ++ [v]) (by rw [List.length_append]; simp; omega)
      rw [h1 v r1 hn, Option.bind_some, if_pos (by omega)]
      constructor
      · intro vs r h
        rw [vals, hn, Option.bind_some] at h
        obtain ⟨⟨ws, r2⟩, hw, h⟩ := Option.bind_eq_some_iff.mp h
        injection h with h
        injection h with h3 h4
        dsimp only at h3 h4 hw
        subst h3
        subst h4
        obtain ⟨k3, k4⟩ := k1 ws r2 hw
        exact ⟨by dsimp only; rw [k3, List.append_assoc]; rfl, by omega⟩
      · intro h
        refine k2 ?_
        rw [vals, hn, Option.bind_some] at h
        cases hv : vals n r1 with
        | none => rfl
        | some p => rw [hv] at h; cases h
def bodyQ (c : Int) (l : List UInt8) : Option UnM :=
  (txt l).bind fun s => (num s.2).bind fun n =>
    if c = 1 then (txt n.2).bind fun p => (txt p.2).bind fun t => (num t.2).bind fun u => (num u.2).bind fun w => (num w.2).bind fun lo => (num lo.2).bind fun hi => finQ (c, s.1, n.1, p.1, t.1, u.1, w.1, lo.1, hi.1, 0, [], 0, 0, 0) hi.2
    else if c = 2 then (num n.2).bind fun e => (cnt true 9 e.2).bind fun q => (vals q.1 q.2).bind fun v => (num v.2).bind fun u => (num u.2).bind fun w => finQ (c, s.1, n.1, ⟨#[]⟩, ⟨#[]⟩, 0, 0, 0, 0, e.1, v.1, u.1, w.1, 0) w.2
    else none
def upk : List UInt8 → Option UnM
  | [] => none
  | c :: l => bodyQ (c.toNat : Int) l
set_option maxRecDepth 100000 in
theorem ends_body (c : Int) : Ends (fun b d => (wire_unpacker_text.F b d).bind fun s => (wire_unpacker_number.F s.2.1 s.2.2).bind fun n => if c = 1 then (wire_unpacker_text.F n.2.1 n.2.2).bind fun p => (wire_unpacker_text.F p.2.1 p.2.2).bind fun t => (wire_unpacker_ratio.F t.2.1 t.2.2).bind fun r => (wire_unpacker_number.F r.2.2.1 r.2.2.2).bind fun lo => (wire_unpacker_number.F lo.2.1 lo.2.2).bind fun hi => wire_Unpack.fin hi.2.1 hi.2.2 (c, s.1, n.1, p.1, t.1, r.1, r.2.1, lo.1, hi.1, 0, [], 0, 0, 0) else if c = 2 then (wire_unpacker_number.F n.2.1 n.2.2).bind fun e => (wire_unpacker_count.F e.2.1 e.2.2).bind fun q => if 0 ≤ q.1 ∧ q.1 < 18446744073709551616 then (wire_Unpack.L0 q.1 q.2.1 q.2.2 []).bind fun v => (wire_unpacker_ratio.F v.2.1 v.2.2).bind fun r => wire_Unpack.fin r.2.2.1 r.2.2.2 (c, s.1, n.1, ⟨#[]⟩, ⟨#[]⟩, 0, 0, 0, 0, e.1, v.1, r.1, r.2.1, 0) else none else wire_Unpack.fin n.2.1 true (wire_Unpack.no 0)) (bodyQ c) := by
  unfold bodyQ
  refine ends_bind text_bad text_good fun s => ?_
  dsimp only
  refine ends_bind number_bad number_goodTo fun n => ?_
  dsimp only
  by_cases h1 : c = 1
  · simp only [if_pos h1]
    refine ends_bind text_bad text_good fun p => ?_
    dsimp only
    refine ends_bind text_bad text_good fun t => ?_
    dsimp only
    refine ends_ratio (Q := fun u z => (num z.2).bind fun lo => (num lo.2).bind fun hi => finQ (c, s, n, p, t, u, z.1, lo.1, hi.1, 0, [], 0, 0, 0) hi.2) fun u w => ?_
    dsimp only
    refine ends_bind number_bad number_goodTo fun lo => ?_
    dsimp only
    refine ends_bind number_bad number_goodTo fun hi => ?_
    dsimp only
    exact ends_fin _
  · simp only [if_neg h1]
    by_cases h2 : c = 2
    · simp only [if_pos h2]
      refine ends_bind number_bad number_goodTo fun e => ?_
      dsimp only
      have hr : ∀ vs : List Int, Ends (fun b d => (wire_unpacker_ratio.F b d).bind fun r => wire_Unpack.fin r.2.2.1 r.2.2.2 (c, s, n, ⟨#[]⟩, ⟨#[]⟩, 0, 0, 0, 0, e, vs, r.1, r.2.1, 0)) (fun l => (num l).bind fun u => (num u.2).bind fun w => finQ (c, s, n, ⟨#[]⟩, ⟨#[]⟩, 0, 0, 0, 0, e, vs, u.1, w.1, 0) w.2) :=
        fun vs => ends_ratio (Q := fun u w => finQ (c, s, n, ⟨#[]⟩, ⟨#[]⟩, 0, 0, 0, 0, e, vs, u, w.1, 0) w.2) fun u w => by dsimp only; exact ends_fin _
      constructor
      · intro l
        obtain ⟨x, l', hx⟩ := count_bad l
        have hx0 : x = 0 := by
          cases l with
          | nil => rw [wire_unpacker_count.F_eq, wire_unpacker_count.L0_eq, byte_nil, Option.bind_some, if_pos rfl, wire_unpacker_count.J1_eq, if_pos rfl] at hx; injection hx with hx; injection hx with hx _; exact hx.symm
          | cons c l => rw [wire_unpacker_count.F_eq, wire_unpacker_count.L0_eq, byte_cons, Option.bind_some, if_pos rfl, wire_unpacker_count.J1_eq, if_pos rfl] at hx; injection hx with hx; injection hx with hx _; exact hx.symm
        subst hx0
        simp only [hx, Option.bind_some]
        rw [if_pos (by omega), loop_bad, Option.bind_some]
        exact (hr []).1 l'
      · intro l hl
        obtain ⟨k1, k2⟩ := count_val l
        cases hc : cnt true 9 l with
        | none =>
          obtain ⟨x, l', hx, x0, x1⟩ := k2 hc
          simp only [hx, hc, Option.bind_some, Option.bind_none, Option.getD_none]
          rw [if_pos ⟨x0, x1⟩, loop_bad, Option.bind_some]
          exact (hr []).1 l'
        | some q =>
          obtain ⟨q, r⟩ := q
          obtain ⟨i1, i2⟩ := cnt_inv10 hc
          have hs := cnt_short _ _ _ _ _ hc
          have hq := k1 q r hc
          show (wire_unpacker_count.F (B l) false).bind _ = some (((cnt true 9 l).bind _).getD _)
          rw [hq, hc, Option.bind_some, Option.bind_some, if_pos (q_rng i2)]
          dsimp only
          obtain ⟨j1, j2⟩ := loop_good q r [] (by simp; omega)
          cases hv : vals q r with
          | none =>
            obtain ⟨x, l', hx⟩ := j2 hv
            simp only [hx, hv, Option.bind_some, Option.bind_none, Option.getD_none]
            exact (hr x).1 l'
          | some p =>
            obtain ⟨vs, r2⟩ := p
            obtain ⟨hx, hr2⟩ := j1 vs r2 hv
            simp only [hx, hv, Option.bind_some, List.nil_append]
            exact (hr vs).2 r2 (by omega)
    · simp only [if_neg h2]
      exact ⟨fun l => rfl, fun l _ => rfl⟩
theorem unpack_wire (a : ByteArray) : wire_Unpack.F a = some (if a.size > 65536 then wire_Unpack.no 4 else (upk a.data.toList).getD (wire_Unpack.no 2)) := by
  rw [wire_Unpack.F_eq]
  by_cases h : (a.size : Int) > 65536
  · rw [if_pos h, if_pos (by omega)]
  · rw [if_neg h, if_neg (by omega)]
    have ea : a = B a.data.toList := rfl
    have hl : a.data.toList.length ≤ 65536 := by have : a.size = a.data.toList.length := rfl; omega
    generalize a.data.toList = l at ea hl
    subst ea
    cases l with
    | nil =>
      rw [byte_nil, Option.bind_some]
      exact (ends_body 0).1 []
    | cons c l =>
      rw [byte_cons, Option.bind_some]
      exact (ends_body (c.toNat : Int)).2 l (by simp at hl; omega)
end Go.Proofs.Ytdfeidpkdbleaaa.Pure
end
section
namespace Go.Proofs.Ytdfeidpkdbleaaa.Pure
set_option linter.unusedVariables false
set_option linter.unusedSimpArgs false
open Go.RowKit Go.Proofs.Ytdfeidpkdbleaaa.PC Go.Proofs.YtdfeidpkdbleaaaW.PrintWords Go.Proofs.YtdfeidpkdbleaaaW.PrintLast Go.Proofs.YtdfeidpkdbleaaaW.PrintMore
def packed (l : List UInt8) : ByteArray × Int := if l.length > 65536 then (⟨#[]⟩, 4) else (B l, 0)
def R64 (a : Int) : Prop := -9223372036854775808 ≤ a ∧ a ≤ 9223372036854775807
structure Fits (a0 : Int) (a1 : ByteArray) (a2 : Int) (a3 a4 : ByteArray) (a5 a6 a7 a8 a9 : Int) (l10 : List Int) (a11 a12 : Int) : Prop where
  s1 : a1.size ≤ 1048576
  s3 : a3.size ≤ 1048576
  s4 : a4.size ≤ 1048576
  sl : l10.length ≤ 1048576
  r2 : R64 a2
  r5 : R64 a5
  r6 : R64 a6
  r7 : R64 a7
  r8 : R64 a8
  r9 : R64 a9
  r11 : R64 a11
  r12 : R64 a12
  rv : ∀ v ∈ l10, R64 v
variable {a0 : Int} {a1 : ByteArray} {a2 : Int} {a3 a4 : ByteArray} {a5 a6 a7 a8 a9 : Int} {l10 : List Int} {a11 a12 : Int}
theorem clean_some : ∃ c, wire_clean.f a0 a1 a2 a3 a4 a5 a6 a7 a8 a9 l10 a11 a12 = some c := by
  unfold wire_clean.f
  repeat' split
  all_goals exact ⟨_, rfl⟩
theorem pack_wire (h : Fits a0 a1 a2 a3 a4 a5 a6 a7 a8 a9 l10 a11 a12) {c : Bool} (hc : wire_clean.f a0 a1 a2 a3 a4 a5 a6 a7 a8 a9 l10 a11 a12 = some c) :
    wire_Pack.f a0 a1 a2 a3 a4 a5 a6 a7 a8 a9 l10 a11 a12 = some (if c = true then packed (pk_list a0 a1 a2 a3 a4 a5 a6 a7 a8 a9 l10 a11 a12) else (⟨#[]⟩, 2)) := by
  have h1 := h.s1
  have h3 := h.s3
  have h4 := h.s4
  have hl := h.sl
  unfold wire_Pack.f
  rw [if_pos ⟨h.r2, h.r5, h.r6, h.r7, h.r8, h.r9, h.r11, h.r12, h.rv⟩]
  unfold wire_Pack.g
  rw [hc, Option.bind_some]
  cases c with
  | false => rfl
  | true =>
    rw [if_pos rfl, if_pos rfl, if_pos (by omega), packed]
    split <;> rfl
end Go.Proofs.Ytdfeidpkdbleaaa.Pure
end
section
namespace Go.Proofs.Ytdfeidpkdbleaaa.Pure
set_option linter.unusedVariables false
set_option linter.unusedSimpArgs false
open Go.RowKit Go.Proofs.Ytdfeidpkdbleaaa.PC Go.Proofs.YtdfeidpkdbleaaaW.PrintWords Go.Proofs.YtdfeidpkdbleaaaW.PrintLast Go.Proofs.YtdfeidpkdbleaaaW.PrintMore Go.Proofs.YtdfeidpkdbleaaaW.EvKit
variable {a0 : Int} {a1 : ByteArray} {a2 : Int} {a3 a4 : ByteArray} {a5 a6 a7 a8 a9 : Int} {l10 : List Int} {a11 a12 : Int}
theorem clean_reply_true : wire_clean.f 2 a1 a2 ⟨#[]⟩ ⟨#[]⟩ 0 0 0 0 a9 l10 a11 a12 = some true := by
  have e : (⟨#[]⟩ : ByteArray).toList = ([] : List UInt8) := B_toList []
  unfold wire_clean.f
  rw [if_neg (by decide), if_pos rfl, if_pos e, if_pos e, if_pos (by decide), if_pos rfl]
  rfl
theorem fin_inv {m m' : UnM} {l : List UInt8} (h : finQ m l = some m') : m = m' ∧ l = [] := by
  unfold finQ at h
  split at h
  · rename_i hl
    exact ⟨Option.some.inj h, hl⟩
  · cases h
theorem num_pos (v : Int) : 1 ≤ (pk_num_ v).length := by
  unfold pk_num_
  rw [uv]
  split <;> simp
theorem flat_len : ∀ l : List Int, l.length ≤ (l.flatMap pk_num_).length
  | [] => by simp
  | v :: l => by
    have := flat_len l
    have := num_pos v
    rw [List.flatMap_cons, List.length_append, List.length_cons]
    omega
theorem text_size (s : ByteArray) : s.size ≤ (pk_text_ s).length := by
  unfold pk_text_
  have e : s.data.toList.length = s.size := rfl
  rw [List.length_append]
  omega
theorem R64_0 : R64 0 := ⟨by omega, by omega⟩
theorem upk_inv (l : List UInt8) (hlen : l.length ≤ 65536) (m : UnM) (h : upk l = some m) :
    m.2.2.2.2.2.2.2.2.2.2.2.2.2 = 0 ∧ l = pk_list m.1 m.2.1 m.2.2.1 m.2.2.2.1 m.2.2.2.2.1 m.2.2.2.2.2.1 m.2.2.2.2.2.2.1 m.2.2.2.2.2.2.2.1 m.2.2.2.2.2.2.2.2.1 m.2.2.2.2.2.2.2.2.2.1 m.2.2.2.2.2.2.2.2.2.2.1 m.2.2.2.2.2.2.2.2.2.2.2.1 m.2.2.2.2.2.2.2.2.2.2.2.2.1
    ∧ wire_clean.f m.1 m.2.1 m.2.2.1 m.2.2.2.1 m.2.2.2.2.1 m.2.2.2.2.2.1 m.2.2.2.2.2.2.1 m.2.2.2.2.2.2.2.1 m.2.2.2.2.2.2.2.2.1 m.2.2.2.2.2.2.2.2.2.1 m.2.2.2.2.2.2.2.2.2.2.1 m.2.2.2.2.2.2.2.2.2.2.2.1 m.2.2.2.2.2.2.2.2.2.2.2.2.1 = some true
    ∧ Fits m.1 m.2.1 m.2.2.1 m.2.2.2.1 m.2.2.2.2.1 m.2.2.2.2.2.1 m.2.2.2.2.2.2.1 m.2.2.2.2.2.2.2.1 m.2.2.2.2.2.2.2.2.1 m.2.2.2.2.2.2.2.2.2.1 m.2.2.2.2.2.2.2.2.2.2.1 m.2.2.2.2.2.2.2.2.2.2.2.1 m.2.2.2.2.2.2.2.2.2.2.2.2.1 := by
  cases l with
  | nil => cases h
  | cons c l =>
    rw [upk] at h
    unfold bodyQ at h
    obtain ⟨⟨s, l1⟩, h1, h⟩ := Option.bind_eq_some_iff.mp h
    obtain ⟨⟨n, l2⟩, h2, h⟩ := Option.bind_eq_some_iff.mp h
    dsimp only at h1 h2 h
    obtain ⟨i1, _⟩ := txt_inv h1
    obtain ⟨i2, r2⟩ := num_inv h2
    by_cases hc1 : (c.toNat : Int) = 1
    · rw [if_pos hc1] at h
      obtain ⟨⟨p, l3⟩, h3, h⟩ := Option.bind_eq_some_iff.mp h
      obtain ⟨⟨t, l4⟩, h4, h⟩ := Option.bind_eq_some_iff.mp h
      obtain ⟨⟨u, l5⟩, h5, h⟩ := Option.bind_eq_some_iff.mp h
      obtain ⟨⟨w, l6⟩, h6, h⟩ := Option.bind_eq_some_iff.mp h
      obtain ⟨⟨lo, l7⟩, h7, h⟩ := Option.bind_eq_some_iff.mp h
      obtain ⟨⟨hi, l8⟩, h8, h⟩ := Option.bind_eq_some_iff.mp h
      dsimp only at h3 h4 h5 h6 h7 h8 h
      obtain ⟨rfl, rfl⟩ := fin_inv h
      obtain ⟨i3, _⟩ := txt_inv h3
      obtain ⟨i4, _⟩ := txt_inv h4
      obtain ⟨i5, r5⟩ := num_inv h5
      obtain ⟨i6, r6⟩ := num_inv h6
      obtain ⟨i7, r7⟩ := num_inv h7
      obtain ⟨i8, r8⟩ := num_inv h8
      have ec : c = 1 := UInt8.toNat_inj.mp (by show c.toNat = 1; omega)
      dsimp only
      subst ec
      subst i1 i2 i3 i4 i5 i6 i7 i8
      have t1 := text_size s
      have t3 := text_size p
      have t4 := text_size t
      simp only [List.length_cons, List.length_append] at hlen
      refine ⟨rfl, ?_, rfl, ⟨by omega, by omega, by omega, by simp, r2, r5, r6, r7, r8, R64_0, R64_0, R64_0, by simp⟩⟩
      rw [hc1, pk_list, if_pos rfl]
      simp only [List.append_assoc, List.append_nil]
      rfl
    · rw [if_neg hc1] at h
      by_cases hc2 : (c.toNat : Int) = 2
      · rw [if_pos hc2] at h
        obtain ⟨⟨e, l3⟩, h3, h⟩ := Option.bind_eq_some_iff.mp h
        obtain ⟨⟨q, l4⟩, h4, h⟩ := Option.bind_eq_some_iff.mp h
        obtain ⟨⟨vs, l5⟩, h5, h⟩ := Option.bind_eq_some_iff.mp h
        obtain ⟨⟨u, l6⟩, h6, h⟩ := Option.bind_eq_some_iff.mp h
        obtain ⟨⟨w, l7⟩, h7, h⟩ := Option.bind_eq_some_iff.mp h
        dsimp only at h3 h4 h5 h6 h7 h
        obtain ⟨rfl, rfl⟩ := fin_inv h
        obtain ⟨i3, r3⟩ := num_inv h3
        obtain ⟨i4, _⟩ := cnt_inv10 h4
        obtain ⟨i5, j5, r5⟩ := vals_inv q l4 vs l5 h5
        obtain ⟨i6, r6⟩ := num_inv h6
        obtain ⟨i7, r7⟩ := num_inv h7
        have ec : c = 2 := UInt8.toNat_inj.mp (by show c.toNat = 2; omega)
        dsimp only
        subst ec
        subst j5
        subst i1 i2 i3 i4 i5 i6 i7
        have t1 := text_size s
        have tv := flat_len vs
        simp only [List.length_cons, List.length_append] at hlen
        have e0 : (⟨#[]⟩ : ByteArray).size = 0 := rfl
        refine ⟨rfl, ?_, by rw [hc2]; exact clean_reply_true, ⟨by omega, by omega, by omega, by omega, r2, R64_0, R64_0, R64_0, R64_0, r3, r6, r7, r5⟩⟩
        rw [hc2, pk_list, if_neg (by decide)]
        simp only [List.append_assoc, List.append_nil]
        rfl
      · rw [if_neg hc2] at h
        cases h
end Go.Proofs.Ytdfeidpkdbleaaa.Pure
end
section
namespace Go.Proofs.Ytdfeidpkdbleaaa.Pure
set_option linter.unusedVariables false
set_option linter.unusedSimpArgs false
open Go.RowKit Go.Proofs.Ytdfeidpkdbleaaa.PC Go.Proofs.YtdfeidpkdbleaaaW.PrintWords Go.Proofs.YtdfeidpkdbleaaaW.PrintLast Go.Proofs.YtdfeidpkdbleaaaW.PrintMore Go.Proofs.YtdfeidpkdbleaaaW.EvKit
theorem Count_is : ∀ (f n : Nat), f ≤ 10 → n < 128 ^ (f + 1) → n < 18446744073709551616 → hushref16_Count.F (n : Int) = some (B (uv f n))
  | f, n, hf10, h1, h2 => by
    by_cases hn : n < 128
    · have e : uv f n = [UInt8.ofNat n] := by cases f with | zero => rfl | succ f => rw [uv, if_pos hn]
      rw [hushref16_Count.F_eq, if_pos (by omega), B_nums, e]
      have : ((n : Int) % 256).toNat = n := by omega
      simp only [List.map_cons, List.map_nil, this]
    · cases f with
      | zero => exact absurd h1 (by omega)
      | succ f =>
        have ih := Count_is f (n / 128) (by omega) (by rw [Nat.pow_succ] at h1; omega) (by omega)
        have e1 : IntKind.u64.wrap (128 + (n : Int).tmod 128) = ((n % 128 + 128 : Nat) : Int) := by rw [Int.tmod_eq_emod_of_nonneg (by omega), u64_of (by omega) (by omega)]; omega
        have e2 : IntKind.u64.wrap ((n : Int).tdiv 128) = ((n / 128 : Nat) : Int) := by rw [Int.tdiv_eq_ediv_of_nonneg (by omega), u64_of (by omega) (by omega)]; omega
        have e3 : (((n % 128 + 128 : Nat) : Int) % 256).toNat = n % 128 + 128 := by omega
        have hl := uv_len f (n / 128)
        rw [hushref16_Count.F_eq, if_neg (by omega), e1, e2, ih, Option.bind_some, Option.bind_some, B_nums]
        simp only [List.map_cons, List.map_nil, e3]
        rw [B_size, B_size, uv, if_neg hn]
        by_cases hf : f ≤ 9223372036854775000
        · rw [if_pos (by simp only [List.length_cons, List.length_nil]; omega), B_app]
          rfl
        · exfalso
          omega
theorem Count10 (n : Nat) (h : n < 18446744073709551616) : hushref16_Count.F (n : Int) = some (B (uv 10 n)) := Count_is 10 n (by omega) (by omega) h
theorem Number_is (a : Int) (h : -9223372036854775808 ≤ a ∧ a ≤ 9223372036854775807) : hushref16_Number.F a = some (B (pk_num_ a)) := by
  obtain ⟨h1, h2⟩ := h
  rw [hushref16_Number.F_eq, pk_num_]
  have hz := zz_lt ⟨h1, h2⟩
  by_cases h0 : a ≥ 0
  · have e : IntKind.u64.wrap (2 * IntKind.u64.wrap a) = (zz a : Int) := by
      unfold zz
      rw [if_pos h0, u64_of (x := a) (by omega) (by omega), u64_of (by omega) (by omega)]
      omega
    rw [if_pos h0, e, Count10 _ hz, Option.bind_some]
  · have e : IntKind.u64.wrap (IntKind.u64.wrap (2 * IntKind.u64.wrap (wrap64 (-wrap64 (a + 1)))) + 1) = (zz a : Int) := by
      unfold zz
      rw [if_neg h0, wrap64_of (x := a + 1) (by omega) (by omega), wrap64_of (by omega) (by omega), u64_of (x := -(a + 1)) (by omega) (by omega), u64_of (x := 2 * -(a + 1)) (by omega) (by omega), u64_of (by omega) (by omega)]
      omega
    rw [if_neg h0, e, Count10 _ hz, Option.bind_some]
theorem text_is (s : ByteArray) (h : s.size ≤ 1048576) : hushref16_text.F s = some (B (pk_text_ s)) := by
  have hl := uv_len 10 s.size
  rw [hushref16_text.F_eq, if_pos (by omega), Count10 _ (by omega), Option.bind_some, B_size, if_pos (by omega), ← B_self s, B_app, B_self]
  rfl
theorem ratio_is (a b : Int) (ha : -9223372036854775808 ≤ a ∧ a ≤ 9223372036854775807) (hb : -9223372036854775808 ≤ b ∧ b ≤ 9223372036854775807) : hushref16_ratio.F a b = some (B (pk_num_ a ++ pk_num_ b)) := by
  have hl := pk_num_len a
  have hk := pk_num_len b
  rw [hushref16_ratio.F_eq, Number_is a ha, Option.bind_some, Number_is b hb, Option.bind_some, B_size, B_size, if_pos (by omega), B_app]
theorem vals_is (l10 : List Int) (hl : l10.length ≤ 1048576) (hv : ∀ v ∈ l10, -9223372036854775808 ≤ v ∧ v ≤ 9223372036854775807) (x0 : Int) (x1 : ByteArray) (x2 : Int) (x3 x4 : ByteArray) (x5 x6 x7 x8 x9 : Int) (x10 : List Int) (x11 x12 : Int) :
    ∀ (rest : List Int) (i : Nat) (acc : List UInt8), l10.drop i = rest → acc.length ≤ 2097152 + 11 * i →
      hushref16_Pack.L0 (B acc) l10 (l10.length : Int) (i : Int) x0 x1 x2 x3 x4 x5 x6 x7 x8 x9 x10 x11 x12 = hushref16_Pack.L0 (B (acc ++ rest.flatMap pk_num_)) l10 (l10.length : Int) (l10.length : Int) x0 x1 x2 x3 x4 x5 x6 x7 x8 x9 x10 x11 x12 ∨ l10.length < i
  | [], i, acc, h, ha => by
    rcases Nat.lt_trichotomy i l10.length with hi | hi | hi
    · have := congrArg List.length h
      rw [List.length_drop] at this
      simp at this
      omega
    · left
      rw [hi]
      simp
    · exact .inr hi
  | v :: rest, i, acc, h, ha => by
    left
    obtain ⟨e1, e2, e3⟩ := getD_drop l10 0 i v rest h
    have hm : v ∈ l10 := by
      have : v ∈ l10.drop i := by rw [h]; simp
      exact List.mem_of_mem_drop this
    have er : rd l10 (i : Int) = v := by unfold rd; rw [Int.toNat_natCast]; exact e1
    have hk := pk_num_len v
    have ih := (vals_is l10 hl hv x0 x1 x2 x3 x4 x5 x6 x7 x8 x9 x10 x11 x12 rest (i + 1) (acc ++ pk_num_ v) e3 (by rw [List.length_append]; omega)).resolve_right (by omega)
    rw [hushref16_Pack.L0_eq, if_pos (by omega), if_pos (by omega), if_pos (by omega), er, Number_is v (hv v hm), Option.bind_some, B_size, B_size, if_pos (by omega), B_app, wrap64_of (by omega) (by omega), castS, ih, List.flatMap_cons, List.append_assoc]
theorem len_flat : ∀ (l : List Int), (l.flatMap pk_num_).length ≤ 11 * l.length
  | [] => by simp
  | v :: l => by
    have := pk_num_len v
    have := len_flat l
    rw [List.flatMap_cons, List.length_append, List.length_cons]
    omega
variable {a0 : Int} {a1 : ByteArray} {a2 : Int} {a3 a4 : ByteArray} {a5 a6 a7 a8 a9 : Int} {l10 : List Int} {a11 a12 : Int}
theorem pack_ref (h : Fits a0 a1 a2 a3 a4 a5 a6 a7 a8 a9 l10 a11 a12) {c : Bool} (hc : wire_clean.f a0 a1 a2 a3 a4 a5 a6 a7 a8 a9 l10 a11 a12 = some c) :
    hushref16_Pack.F a0 a1 a2 a3 a4 a5 a6 a7 a8 a9 l10 a11 a12 = some (if c = true then packed (pk_list a0 a1 a2 a3 a4 a5 a6 a7 a8 a9 l10 a11 a12) else (⟨#[]⟩, 2)) := by
  have hc' : hushref16_Clean.f a0 a1 a2 a3 a4 a5 a6 a7 a8 a9 l10 a11 a12 = some c := hc
  have h1 := h.s1
  have h3 := h.s3
  have h4 := h.s4
  have hl := h.sl
  rw [hushref16_Pack.F_eq, hc', Option.bind_some]
  cases c with
  | false => rfl
  | true =>
    have hk := pk_clean_kind hc
    have b1 := pk_text_len a1
    have b2 := pk_num_len a2
    rw [if_pos rfl, if_pos rfl, Option.bind_some, text_is a1 h1, Option.bind_some, B_nums, B_size, B_size, if_pos (by simp only [List.length_map, List.length_cons, List.length_nil]; omega), B_app, Number_is a2 h.r2, Option.bind_some, B_size, B_size, if_pos (by simp only [List.length_append, List.length_map, List.length_cons, List.length_nil]; omega), B_app]
    rcases hk with rfl | rfl
    · have b3 := pk_text_len a3
      have b4 := pk_text_len a4
      have b5 := pk_num_len a5
      have b6 := pk_num_len a6
      have b7 := pk_num_len a7
      have b8 := pk_num_len a8
      have e : pk_list 1 a1 a2 a3 a4 a5 a6 a7 a8 a9 l10 a11 a12 = (((((((List.map (fun n : Int => UInt8.ofNat n.toNat) [1 % 256]) ++ pk_text_ a1) ++ pk_num_ a2) ++ pk_text_ a3) ++ pk_text_ a4) ++ (pk_num_ a5 ++ pk_num_ a6)) ++ pk_num_ a7) ++ pk_num_ a8 := by
        rw [pk_list, if_pos rfl]
        simp only [List.append_assoc, List.map_cons, List.map_nil]
        rfl
      rw [if_pos rfl, text_is a3 h3, Option.bind_some, B_size, B_size, if_pos (by simp only [List.length_append, List.length_map, List.length_cons, List.length_nil]; omega), B_app,
        text_is a4 h4, Option.bind_some, B_size, B_size, if_pos (by simp only [List.length_append, List.length_map, List.length_cons, List.length_nil]; omega), B_app,
        ratio_is a5 a6 h.r5 h.r6, Option.bind_some, B_size, B_size, if_pos (by simp only [List.length_append, List.length_map, List.length_cons, List.length_nil]; omega), B_app,
        Number_is a7 h.r7, Option.bind_some, B_size, B_size, if_pos (by simp only [List.length_append, List.length_map, List.length_cons, List.length_nil]; omega), B_app,
        Number_is a8 h.r8, Option.bind_some, B_size, B_size, if_pos (by simp only [List.length_append, List.length_map, List.length_cons, List.length_nil]; omega), B_app, ← e, B_size, packed]
      by_cases hgt : (pk_list 1 a1 a2 a3 a4 a5 a6 a7 a8 a9 l10 a11 a12).length > 65536
      · rw [if_pos (by omega), if_pos hgt]
      · rw [if_neg (by omega), if_neg hgt]
    · have b9 := pk_num_len a9
      have bc := uv_len 10 l10.length
      have b11 := pk_num_len a11
      have b12 := pk_num_len a12
      have bl := len_flat l10
      have e : pk_list 2 a1 a2 a3 a4 a5 a6 a7 a8 a9 l10 a11 a12 = ((((((List.map (fun n : Int => UInt8.ofNat n.toNat) [2 % 256]) ++ pk_text_ a1) ++ pk_num_ a2) ++ pk_num_ a9) ++ uv 10 l10.length) ++ l10.flatMap pk_num_) ++ (pk_num_ a11 ++ pk_num_ a12) := by
        rw [pk_list, if_neg (by decide)]
        simp only [List.append_assoc, List.map_cons, List.map_nil]
        rfl
      have hL := (vals_is l10 hl h.rv 2 a1 a2 a3 a4 a5 a6 a7 a8 a9 l10 a11 a12 l10 0 (((((List.map (fun n : Int => UInt8.ofNat n.toNat) [2 % 256]) ++ pk_text_ a1) ++ pk_num_ a2) ++ pk_num_ a9) ++ uv 10 l10.length) rfl (by simp only [List.length_append, List.length_map, List.length_cons, List.length_nil]; omega)).resolve_right (by omega)
      have h0 : ((0 : Nat) : Int) = 0 := rfl
      rw [h0] at hL
      rw [if_neg (by decide), Number_is a9 h.r9, Option.bind_some, B_size, B_size, if_pos (by simp only [List.length_append, List.length_map, List.length_cons, List.length_nil]; omega), B_app,
        u64_of (by omega) (by omega), Count10 _ (by omega), Option.bind_some, B_size, B_size, if_pos (by simp only [List.length_append, List.length_map, List.length_cons, List.length_nil]; omega), B_app, hL, hushref16_Pack.L0_eq, if_neg (by omega),
        ratio_is a11 a12 h.r11 h.r12, Option.bind_some, B_size, B_size, if_pos (by simp only [List.length_append, List.length_map, List.length_cons, List.length_nil]; omega), B_app, ← e, B_size, packed]
      by_cases hgt : (pk_list 2 a1 a2 a3 a4 a5 a6 a7 a8 a9 l10 a11 a12).length > 65536
      · rw [if_pos (by omega), if_pos hgt]
      · rw [if_neg (by omega), if_neg hgt]
end Go.Proofs.Ytdfeidpkdbleaaa.Pure
end
section
namespace Go.Proofs.Ytdfeidpkdbleaaa.Pure
set_option linter.unusedVariables false
set_option linter.unusedSimpArgs false
open Go.RowKit Go.Proofs.Ytdfeidpkdbleaaa.PC Go.Proofs.YtdfeidpkdbleaaaW.PrintWords Go.Proofs.YtdfeidpkdbleaaaW.PrintLast Go.Proofs.YtdfeidpkdbleaaaW.PrintMore Go.Proofs.YtdfeidpkdbleaaaW.EvKit
theorem rcount_bad (L : List UInt8) : hushref16_count.F (B L) (-1) = some (0, -1) := by
  rw [hushref16_count.F_eq, hushref16_count.L0_eq, if_pos (by omega), if_pos (by omega), hushref16_count.J1_eq, if_pos rfl]
theorem drop_cons {L : List UInt8} {k : Nat} {c : UInt8} {l : List UInt8} (h : L.drop k = c :: l) : k < L.length ∧ L.drop (k + 1) = l := by
  have hk : k < L.length := by
    rcases Nat.lt_or_ge k L.length with hk | hk
    · exact hk
    · rw [List.drop_eq_nil_of_le hk] at h; cases h
  rw [List.drop_eq_getElem_cons hk] at h
  injection h with _ h2
  exact ⟨hk, h2⟩
theorem rcount_one (L : List UInt8) (hL : L.length ≤ 65536) (p i : Nat) (c : UInt8) (l : List UInt8) (hd : L.drop (p + i) = c :: l) (hi : i ≤ 9) (x6 x7 : Int) :
    hushref16_count.L0 (B L) (p : Int) x6 x7 (i : Int) = hushref16_count.J2 (B L) (p : Int) x6 x7 (i : Int) (c.toNat : Int) (if i = 9 ∧ 1 < c.toNat then true else if 0 < i then ((c.toNat : Int) == 0) else false) := by
  obtain ⟨hk, hd'⟩ := drop_cons hd
  have hc := c.toNat_lt
  have ew : wrap64 ((p : Int) + (i : Int)) = ((p + i : Nat) : Int) := by unfold wrap64; omega
  have ed : decide (((p + i : Nat) : Int) ≥ ((B L).size : Int)) = false := decide_eq_false (by rw [B_size]; omega)
  have eb : bt (B L) ((p + i : Nat) : Int) = (c.toNat : Int) := (B_bt_at L (p + i) c l hd).1
  have eu : IntKind.u64.wrap (c.toNat : Int) = (c.toNat : Int) := u64_of (by omega) (by omega)
  rw [hushref16_count.L0_eq, if_pos (by omega), if_neg (by omega), ew, ed, hushref16_count.J1_eq, if_neg (by decide), ew, if_pos (by omega), if_pos (by rw [B_size]; omega), eb, eu]
  by_cases h9 : i = 9
  · rw [if_pos (show (i : Int) = 9 by omega)]
    by_cases h1 : 1 < c.toNat
    · have eg : (if i = 9 ∧ 1 < c.toNat then true else if 0 < i then ((c.toNat : Int) == 0) else false) = true := if_pos ⟨h9, h1⟩
      rw [eg, if_pos (show (c.toNat : Int) > 1 by omega)]
    · have eg : (if i = 9 ∧ 1 < c.toNat then true else if 0 < i then ((c.toNat : Int) == 0) else false) = ((c.toNat : Int) == 0) := by
        rw [if_neg (fun h => h1 h.2)]
        exact if_pos (by omega)
      rw [eg, if_neg (show ¬ (c.toNat : Int) > 1 by omega), if_pos (show (i : Int) > 0 by omega)]
  · rw [if_neg (show ¬ (i : Int) = 9 by omega)]
    by_cases h0 : 0 < i
    · have eg : (if i = 9 ∧ 1 < c.toNat then true else if 0 < i then ((c.toNat : Int) == 0) else false) = ((c.toNat : Int) == 0) := by
        rw [if_neg (fun h => h9 h.1)]
        exact if_pos (by omega)
      rw [eg, if_pos (show (i : Int) > 0 by omega)]
    · have eg : (if i = 9 ∧ 1 < c.toNat then true else if 0 < i then ((c.toNat : Int) == 0) else false) = false := by
        rw [if_neg (fun h => h9 h.1)]
        exact if_neg (by omega)
      rw [eg, if_neg (show ¬ (i : Int) > 0 by omega)]
set_option maxHeartbeats 1000000 in
set_option maxRecDepth 100000 in
theorem rcount_step (L : List UInt8) (hL : L.length ≤ 65536) (p : Nat) : ∀ (g i acc : Nat) (l : List UInt8), L.drop (p + i) = l → p + i ≤ L.length → i + g = 9 → acc < 2 ^ (7 * i) →
    (∀ n r, cnt (decide (i = 0)) g l = some (n, r) → ∃ j : Nat, hushref16_count.L0 (B L) (p : Int) (acc : Int) ((2 ^ (7 * i) : Nat) : Int) (i : Int) = some (((acc + n * 2 ^ (7 * i) : Nat) : Int), (j : Int)) ∧ j ≤ L.length ∧ r = L.drop j) ∧
    (cnt (decide (i = 0)) g l = none → hushref16_count.L0 (B L) (p : Int) (acc : Int) ((2 ^ (7 * i) : Nat) : Int) (i : Int) = some (0, -1))
  | g, i, acc, [], hd, hp, hg, ha => by
    have e : cnt (decide (i = 0)) g [] = none := by cases g <;> rfl
    have hlen : p + i = L.length := by have := congrArg List.length hd; rw [List.length_drop] at this; simp at this; omega
    refine ⟨fun n r h => (by rw [e] at h; cases h), fun _ => ?_⟩
    have ew : wrap64 ((p : Int) + (i : Int)) = ((p + i : Nat) : Int) := by unfold wrap64; omega
    have ed : decide (((p + i : Nat) : Int) ≥ ((B L).size : Int)) = true := decide_eq_true (by rw [B_size]; omega)
    rw [hushref16_count.L0_eq, if_pos (by omega), if_neg (by omega), ew, ed, hushref16_count.J1_eq, if_pos rfl]
  | g, i, acc, c :: l, hd, hp, hg, ha => by
    obtain ⟨hk, hd'⟩ := drop_cons hd
    have hc := c.toNat_lt
    have ew : wrap64 ((p : Int) + (i : Int)) = ((p + i : Nat) : Int) := by clear ha; unfold wrap64; omega
    have ew1 : wrap64 (((p + i : Nat) : Int) + 1) = ((p + i + 1 : Nat) : Int) := by clear ha; unfold wrap64; omega
    have e0 := rcount_one L hL p i c l hd (by clear ha; omega) (acc : Int) ((2 ^ (7 * i) : Nat) : Int)
    rw [e0, hushref16_count.J2_eq]
    have etm : (c.toNat : Int).tmod 128 = ((c.toNat % 128 : Nat) : Int) := by rw [Int.tmod_eq_emod_of_nonneg (by omega)]; omega
    have emul : ((c.toNat % 128 : Nat) : Int) * ((2 ^ (7 * i) : Nat) : Int) = ((c.toNat % 128 * 2 ^ (7 * i) : Nat) : Int) := by push_cast; rfl
    cases g with
    | zero =>
      have hi : i = 9 := by omega
      subst hi
      rw [cnt]
      by_cases h1 : c.toNat = 1
      · rw [if_pos h1, if_neg (by rw [if_neg (by omega), if_pos (by omega), beq_iff_eq]; omega), if_pos (by omega)]
        refine ⟨fun n r h => ?_, fun h => (by cases h)⟩
        injection h with h
        injection h with h2 h3
        subst h2
        subst h3
        refine ⟨p + 9 + 1, ?_, by omega, hd'.symm⟩
        have h63 : 2 ^ (7 * 9) = 9223372036854775808 := by decide
        have etm1 : (c.toNat : Int).tmod 128 = 1 := by rw [etm, h1]; rfl
        have ewf : wrap64 (((p + 9 : Nat) : Int) + 1) = ((p + 9 + 1 : Nat) : Int) := ew1
        rw [etm1, ew, ewf, Int.one_mul, h63]
        rw [h63] at ha
        clear e0 etm emul hd hd' etm1
        rw [u64_of (x := ((9223372036854775808 : Nat) : Int)) (by omega) (by omega), u64_of (by omega) (by omega)]
        congr 2
      · have eg : (if 9 = 9 ∧ 1 < c.toNat then true else if 0 < 9 then ((c.toNat : Int) == 0) else false) = true := by
          by_cases h2 : 1 < c.toNat
          · exact if_pos ⟨rfl, h2⟩
          · rw [if_neg (fun h => h2 h.2), if_pos (by decide), beq_iff_eq]
            omega
        rw [if_neg h1, eg, if_pos rfl]
        exact ⟨fun n r h => (by cases h), fun _ => rfl⟩
    | succ g =>
      have hi : i ≤ 8 := by omega
      have hP : 2 ^ (7 * i) ≤ 2 ^ 56 := Nat.pow_le_pow_right (by decide) (by omega)
      have hT : c.toNat % 128 * 2 ^ (7 * i) ≤ 127 * 2 ^ 56 := Nat.mul_le_mul (by omega) hP
      have eg : (if i = 9 ∧ 1 < c.toNat then true else if 0 < i then ((c.toNat : Int) == 0) else false) = (if 0 < i then ((c.toNat : Int) == 0) else false) := if_neg (by rintro ⟨h, _⟩; omega)
      rw [eg, cnt]
      by_cases h0 : c.toNat = 0 ∧ decide (i = 0) = false
      · have hi0 : 0 < i := by have := of_decide_eq_false h0.2; omega
        have eg2 : (if 0 < i then ((c.toNat : Int) == 0) else false) = true := by rw [if_pos hi0, beq_iff_eq]; omega
        rw [if_pos h0, eg2, if_pos rfl]
        exact ⟨fun n r h => (by cases h), fun _ => rfl⟩
      · have hg : ¬ (if 0 < i then ((c.toNat : Int) == 0) else false) = true := by
          by_cases hi0 : 0 < i
          · rw [if_pos hi0, beq_iff_eq]
            intro h
            exact h0 ⟨by omega, decide_eq_false (by omega)⟩
          · rw [if_neg hi0]; decide
        rw [if_neg h0, if_neg hg, etm, emul, u64_of (x := ((c.toNat % 128 * 2 ^ (7 * i) : Nat) : Int)) (by omega) (by omega), u64_of (by omega) (by omega), ew, ew1]
        by_cases hlt : c.toNat < 128
        · rw [if_pos hlt, if_pos (show (c.toNat : Int) < 128 by omega)]
          refine ⟨fun n r h => ?_, fun h => (by cases h)⟩
          injection h with h
          injection h with h2 h3
          subst h2
          subst h3
          have hm : c.toNat % 128 = c.toNat := by omega
          exact ⟨p + i + 1, by rw [hm]; push_cast; rfl, by omega, hd'.symm⟩
        · rw [if_neg hlt, if_neg (show ¬ (c.toNat : Int) < 128 by omega)]
          have hm : c.toNat % 128 = c.toNat - 128 := by omega
          have hs : 2 ^ (7 * (i + 1)) = 128 * 2 ^ (7 * i) := by rw [Nat.mul_add, Nat.pow_add]; omega
          have hacc : acc + c.toNat % 128 * 2 ^ (7 * i) < 2 ^ (7 * (i + 1)) := by
            have : c.toNat % 128 * 2 ^ (7 * i) ≤ 127 * 2 ^ (7 * i) := Nat.mul_le_mul (by omega) (Nat.le_refl _)
            rw [hs]
            omega
          obtain ⟨k1, k2⟩ := rcount_step L hL p g (i + 1) (acc + c.toNat % 128 * 2 ^ (7 * i)) l hd' (by omega) (by omega) hacc
          have e1 : (acc : Int) + ((c.toNat % 128 * 2 ^ (7 * i) : Nat) : Int) = ((acc + c.toNat % 128 * 2 ^ (7 * i) : Nat) : Int) := by push_cast; rfl
          have e2 : IntKind.u64.wrap (((2 ^ (7 * i) : Nat) : Int) * 128) = ((2 ^ (7 * (i + 1)) : Nat) : Int) := by rw [hs, u64_of (by omega) (by omega)]; omega
          have e3 : wrap64 ((i : Int) + 1) = ((i + 1 : Nat) : Int) := by unfold wrap64; omega
          have ed : decide (i + 1 = 0) = false := rfl
          rw [ed] at k1 k2
          rw [e1, e2, e3]
          constructor
          · intro n r h
            obtain ⟨⟨m, r'⟩, hm', h⟩ := Option.bind_eq_some_iff.mp h
            injection h with h
            injection h with h2 h3
            dsimp only at h2 h3
            subst h2
            subst h3
            obtain ⟨j, hj, hjl, hr⟩ := k1 m r' hm'
            refine ⟨j, ?_, hjl, hr⟩
            rw [hj]
            congr 2
            rw [hs, hm]
            have : (c.toNat - 128 + 128 * m) * 2 ^ (7 * i) = (c.toNat - 128) * 2 ^ (7 * i) + m * (128 * 2 ^ (7 * i)) := by rw [Nat.add_mul]; congr 1; rw [Nat.mul_comm 128 m, Nat.mul_assoc]
            omega
          · intro h
            refine k2 ?_
            cases hc' : cnt false g l with
            | none => rfl
            | some q => rw [hc'] at h; cases h
def Reads {α : Type} (L : List UInt8) (F : Int → Option (α × Int)) (P : List UInt8 → Option (α × List UInt8)) (z : α) : Prop :=
  F (-1) = some (z, -1) ∧ ∀ i : Nat, i ≤ L.length → (∀ x r, P (L.drop i) = some (x, r) → ∃ j : Nat, F (i : Int) = some (x, (j : Int)) ∧ j ≤ L.length ∧ r = L.drop j) ∧ (P (L.drop i) = none → F (i : Int) = some (z, -1))
theorem rcount_val (L : List UInt8) (hL : L.length ≤ 65536) (i : Nat) (hi : i ≤ L.length) : (∀ n r, cnt true 9 (L.drop i) = some (n, r) → ∃ j : Nat, hushref16_count.F (B L) (i : Int) = some ((n : Int), (j : Int)) ∧ j ≤ L.length ∧ r = L.drop j) ∧ (cnt true 9 (L.drop i) = none → hushref16_count.F (B L) (i : Int) = some (0, -1)) := by
  obtain ⟨h1, h2⟩ := rcount_step L hL i 9 0 0 (L.drop i) rfl hi rfl (by decide)
  have ed : decide ((0 : Nat) = 0) = true := rfl
  rw [ed] at h1 h2
  have e : hushref16_count.F (B L) (i : Int) = hushref16_count.L0 (B L) (i : Int) ((0 : Nat) : Int) ((2 ^ (7 * 0) : Nat) : Int) ((0 : Nat) : Int) := by rw [hushref16_count.F_eq]; rfl
  rw [e]
  refine ⟨fun n r h => ?_, h2⟩
  obtain ⟨j, h3, h4, h5⟩ := h1 n r h
  refine ⟨j, ?_, h4, h5⟩
  rw [h3]
  simp
theorem rnumber_bad_of {L : List UInt8} {x : Int} (h : hushref16_count.F (B L) x = some (0, -1)) : hushref16_number.F (B L) x = some (0, -1) := by
  rw [hushref16_number.F_eq, h, Option.bind_some]
  dsimp only
  have e0 : wrap64 (IntKind.u64.wrap (Int.tdiv 0 2)) = 0 := by decide +kernel
  rw [if_pos (by decide), e0]
theorem rnumber_reads (L : List UInt8) (hL : L.length ≤ 65536) : Reads L (hushref16_number.F (B L)) num 0 := by
  refine ⟨rnumber_bad_of (rcount_bad L), fun i hi => ?_⟩
  obtain ⟨h1, h2⟩ := rcount_val L hL i hi
  constructor
  · intro x r h
    obtain ⟨⟨n, r'⟩, hn, h⟩ := Option.bind_eq_some_iff.mp h
    injection h with h
    injection h with h3 h4
    dsimp only at h3 h4
    subst h3
    subst h4
    have hlt := (cnt_inv10 hn).2
    obtain ⟨j, hj, hjl, hr⟩ := h1 n r' hn
    refine ⟨j, ?_, hjl, hr⟩
    rw [hushref16_number.F_eq, hj, Option.bind_some]
    dsimp only
    have e1 : (n : Int).tmod 2 = ((n % 2 : Nat) : Int) := by rw [Int.tmod_eq_emod_of_nonneg (by omega)]; omega
    have e2 : (n : Int).tdiv 2 = ((n / 2 : Nat) : Int) := by rw [Int.tdiv_eq_ediv_of_nonneg (by omega)]; omega
    rw [e1, e2, u64_of (by omega) (by omega), wrap64_of (x := ((n / 2 : Nat) : Int)) (by omega) (by omega), unzz]
    by_cases h2 : n % 2 = 0
    · rw [if_pos (by omega), if_pos h2]
    · rw [if_neg (by omega), if_neg h2, wrap64_of (x := -((n / 2 : Nat) : Int)) (by omega) (by omega), wrap64_of (by omega) (by omega)]
  · intro h
    refine rnumber_bad_of (h2 ?_)
    cases hc : cnt true 9 (L.drop i) with
    | none => rfl
    | some q => rw [num, hc] at h; cases h
theorem rword_bad_of {L : List UInt8} {x : Int} (h : hushref16_count.F (B L) x = some (0, -1)) : hushref16_word.F (B L) x = some (⟨#[]⟩, -1) := by
  rw [hushref16_word.F_eq, h, Option.bind_some]
  dsimp only
  rw [if_pos (by omega)]
theorem rword_reads (L : List UInt8) (hL : L.length ≤ 65536) : Reads L (hushref16_word.F (B L)) txt ⟨#[]⟩ := by
  refine ⟨rword_bad_of (rcount_bad L), fun i hi => ?_⟩
  obtain ⟨h1, h2⟩ := rcount_val L hL i hi
  constructor
  · intro x r h
    obtain ⟨⟨n, r'⟩, hn, h⟩ := Option.bind_eq_some_iff.mp h
    split at h
    · rename_i hle
      injection h with h
      injection h with h3 h4
      dsimp only at h3 h4 hle
      subst h3
      subst h4
      obtain ⟨j, hj, hjl, hr⟩ := h1 n r' hn
      have hlr : r'.length = L.length - j := by rw [hr, List.length_drop]
      refine ⟨j + n, ?_, by omega, by rw [hr, List.drop_drop]⟩
      rw [hushref16_word.F_eq, hj, Option.bind_some]
      dsimp only
      have e1 : wrap64 ((L.length : Int) - (j : Int)) = ((L.length - j : Nat) : Int) := by rw [wrap64_of (by omega) (by omega)]; omega
      rw [if_neg (by omega), B_size, e1, u64_of (by omega) (by omega), if_neg (by omega), wrap64_of (x := (n : Int)) (by omega) (by omega), wrap64_of (x := (j : Int) + (n : Int)) (by omega) (by omega), if_pos (by omega), if_pos (by omega), if_pos (by omega)]
      have e2 : ((j : Int) + (n : Int)).toNat = j + n := by omega
      rw [Int.toNat_natCast, e2, B_extract, hr]
      have e3 : j + n - j = n := by omega
      rw [e3]
      push_cast
      rfl
    · cases h
  · intro h
    cases hc : cnt true 9 (L.drop i) with
    | none => exact rword_bad_of (h2 hc)
    | some q =>
      obtain ⟨n, r'⟩ := q
      rw [txt, hc, Option.bind_some] at h
      dsimp only at h
      split at h
      · cases h
      · rename_i hle
        have hn64 := (cnt_inv10 hc).2
        obtain ⟨j, hj, hjl, hr⟩ := h1 n r' hc
        have hlr : r'.length = L.length - j := by rw [hr, List.length_drop]
        have e1 : wrap64 ((L.length : Int) - (j : Int)) = ((L.length - j : Nat) : Int) := by rw [wrap64_of (by omega) (by omega)]; omega
        rw [hushref16_word.F_eq, hj, Option.bind_some]
        dsimp only
        rw [if_neg (by omega), B_size, e1, u64_of (by omega) (by omega), if_pos (by omega)]
def REnds (L : List UInt8) (G : Int → Option UnM) (Q : List UInt8 → Option UnM) : Prop :=
  G (-1) = some (wire_Unpack.no 2) ∧ (∀ i : Nat, i ≤ L.length → G (i : Int) = some ((Q (L.drop i)).getD (wire_Unpack.no 2)))
theorem rends_bind {α : Type} {L : List UInt8} {F : Int → Option (α × Int)} {P : List UInt8 → Option (α × List UInt8)} {z : α} {G : α × Int → Option UnM} {Q : α × List UInt8 → Option UnM}
    (hr : Reads L F P z) (h : ∀ x, REnds L (fun a => G (x, a)) (fun l => Q (x, l))) : REnds L (fun a => (F a).bind G) (fun l => (P l).bind Q) := by
  obtain ⟨hb, hg⟩ := hr
  constructor
  · simp only [hb, Option.bind_some]
    exact (h z).1
  · intro i hi
    obtain ⟨h1, h2⟩ := hg i hi
    cases hp : P (L.drop i) with
    | none =>
      simp only [h2 hp, hp, Option.bind_some, Option.bind_none, Option.getD_none]
      exact (h z).1
    | some q =>
      obtain ⟨x, r⟩ := q
      obtain ⟨j, hj, hjl, e⟩ := h1 x r hp
      subst e
      simp only [hj, hp, Option.bind_some]
      exact (h x).2 j hjl
theorem rends_fin (L : List UInt8) (m : UnM) : REnds L (fun a => some (hushref16_Unpack.fin (B L) a m)) (finQ m) := by
  constructor
  · show some (hushref16_Unpack.fin (B L) (-1) m) = _
    rw [hushref16_Unpack.fin, if_neg (by rw [B_size]; omega)]
    rfl
  · intro i hi
    show some (hushref16_Unpack.fin (B L) (i : Int) m) = _
    rw [hushref16_Unpack.fin, finQ, B_size]
    by_cases h : i = L.length
    · rw [if_pos (by omega), if_pos (by rw [h]; simp)]
      rfl
    · rw [if_neg (by omega), if_neg (by rw [List.drop_eq_nil_iff]; omega)]
      rfl
theorem rloop_bad (L : List UInt8) (n : Int) (acc : List Int) : hushref16_Unpack.L0 (B L) (-1) n acc = some (acc, -1) := by
  rw [hushref16_Unpack.L0_eq]
  split
  · rw [if_neg (by omega)]
  · rfl
theorem rloop_good (L : List UInt8) (hL : L.length ≤ 65536) : ∀ (n : Nat) (i : Nat) (acc : List Int), i ≤ L.length → (L.length - i) + acc.length ≤ 1048576 →
    (∀ vs r, vals n (L.drop i) = some (vs, r) → ∃ j : Nat, hushref16_Unpack.L0 (B L) (i : Int) (n : Int) acc = some (acc ++ vs, (j : Int)) ∧ j ≤ L.length ∧ r = L.drop j) ∧ (vals n (L.drop i) = none → ∃ x, hushref16_Unpack.L0 (B L) (i : Int) (n : Int) acc = some (x, -1))
  | 0, i, acc, hi, hl => by
    refine ⟨fun vs r h => ?_, fun h => (by cases h)⟩
    injection h with h
    injection h with h1 h2
    subst h1
    subst h2
    exact ⟨i, by rw [hushref16_Unpack.L0_eq, if_neg (by omega), List.append_nil], hi, rfl⟩
  | n + 1, i, acc, hi, hl => by
    obtain ⟨h1, h2⟩ := (rnumber_reads L hL).2 i hi
    have e : hushref16_Unpack.L0 (B L) (i : Int) ((n + 1 : Nat) : Int) acc = (hushref16_number.F (B L) (i : Int)).bind fun z => if acc.length < 17592186044416 then hushref16_Unpack.L0 (B L) z.2 (n : Int) (acc ++ [z.1]) else none := by
      rw [hushref16_Unpack.L0_eq, if_pos (by omega), if_pos (by omega)]
      have : ((n + 1 : Nat) : Int) - 1 = (n : Int) := by omega
      rw [this]
    rw [e]
    cases hn : num (L.drop i) with
    | none =>
      refine ⟨fun vs r h => (by rw [vals, hn] at h; cases h), fun _ => ⟨acc ++ [0], ?_⟩⟩
      rw [h2 hn, Option.bind_some, if_pos (by omega)]
      exact rloop_bad _ _ _
    | some q =>
      obtain ⟨v, r1⟩ := q
      have hs := num_short hn
      obtain ⟨j, hj, hjl, er⟩ := h1 v r1 hn
      subst er
      rw [List.length_drop, List.length_drop] at hs
      obtain ⟨k1, k2⟩ := rloop_good L hL n j (acc ++ [v]) hjl (by rw [List.length_append]; simp; omega)
      rw [hj, Option.bind_some, if_pos (by omega)]
      constructor
      · intro vs r h
        rw [vals, hn, Option.bind_some] at h
        obtain ⟨⟨ws, r2⟩, hw, h⟩ := Option.bind_eq_some_iff.mp h
        injection h with h
        injection h with h3 h4
        dsimp only at h3 h4 hw
        subst h3
        subst h4
        obtain ⟨j2, k3, k4, k5⟩ := k1 ws r2 hw
        exact ⟨j2, by dsimp only; rw [k3, List.append_assoc]; rfl, k4, k5⟩
      · intro h
        refine k2 ?_
        rw [vals, hn, Option.bind_some] at h
        cases hv : vals n (L.drop j) with
        | none => rfl
        | some p => rw [hv] at h; cases h
theorem rends_two (L : List UInt8) (hL : L.length ≤ 65536) (s : ByteArray) (n : Int) : REnds L
    (fun a => (hushref16_number.F (B L) a).bind fun e => (hushref16_count.F (B L) e.2).bind fun q => if 0 ≤ q.1 ∧ q.1 < 18446744073709551616 then (hushref16_Unpack.L0 (B L) q.2 q.1 []).bind fun vs => (hushref16_number.F (B L) vs.2).bind fun u => (hushref16_number.F (B L) u.2).bind fun v => some (hushref16_Unpack.fin (B L) v.2 (2, s, n, ⟨#[]⟩, ⟨#[]⟩, 0, 0, 0, 0, e.1, vs.1, u.1, v.1, 0)) else none)
    (fun l => (num l).bind fun e => (cnt true 9 e.2).bind fun q => (vals q.1 q.2).bind fun v => (num v.2).bind fun u => (num u.2).bind fun w => finQ (2, s, n, ⟨#[]⟩, ⟨#[]⟩, 0, 0, 0, 0, e.1, v.1, u.1, w.1, 0) w.2) := by
  have hN := rnumber_reads L hL
  refine rends_bind hN fun e => ?_
  dsimp only
  have hr : ∀ vs : List Int, REnds L (fun a => (hushref16_number.F (B L) a).bind fun u => (hushref16_number.F (B L) u.2).bind fun v => some (hushref16_Unpack.fin (B L) v.2 (2, s, n, ⟨#[]⟩, ⟨#[]⟩, 0, 0, 0, 0, e, vs, u.1, v.1, 0)))
      (fun l => (num l).bind fun u => (num u.2).bind fun w => finQ (2, s, n, ⟨#[]⟩, ⟨#[]⟩, 0, 0, 0, 0, e, vs, u.1, w.1, 0) w.2) := fun vs => by
    refine rends_bind hN fun u => ?_
    dsimp only
    refine rends_bind hN fun v => ?_
    dsimp only
    exact rends_fin L _
  constructor
  · show (hushref16_count.F (B L) (-1)).bind _ = _
    rw [rcount_bad, Option.bind_some]
    dsimp only
    rw [if_pos ⟨by omega, by omega⟩, rloop_bad, Option.bind_some]
    exact (hr []).1
  · intro i hi
    obtain ⟨k1, k2⟩ := rcount_val L hL i hi
    show (hushref16_count.F (B L) (i : Int)).bind _ = some (((cnt true 9 (L.drop i)).bind _).getD _)
    cases hc : cnt true 9 (L.drop i) with
    | none =>
      rw [k2 hc, Option.bind_some, Option.bind_none, Option.getD_none]
      dsimp only
      rw [if_pos ⟨by omega, by omega⟩, rloop_bad, Option.bind_some]
      exact (hr []).1
    | some q =>
      obtain ⟨q, r⟩ := q
      have i2 := (cnt_inv10 hc).2
      obtain ⟨j, hj, hjl, er⟩ := k1 q r hc
      subst er
      rw [hj, Option.bind_some, Option.bind_some, if_pos (q_rng i2)]
      dsimp only
      obtain ⟨j1, j2⟩ := rloop_good L hL q j [] hjl (by simp; omega)
      cases hv : vals q (L.drop j) with
      | none =>
        obtain ⟨x, hx⟩ := j2 hv
        rw [hx, Option.bind_some, Option.bind_none, Option.getD_none]
        exact (hr x).1
      | some p =>
        obtain ⟨vs, r2⟩ := p
        obtain ⟨j3, hx, hr2, er⟩ := j1 vs r2 hv
        subst er
        rw [hx, Option.bind_some, Option.bind_some, List.nil_append]
        exact (hr vs).2 j3 hr2
theorem rends_one (L : List UInt8) (hL : L.length ≤ 65536) (s : ByteArray) (n : Int) : REnds L
    (fun a => (hushref16_word.F (B L) a).bind fun p => (hushref16_word.F (B L) p.2).bind fun t => (hushref16_number.F (B L) t.2).bind fun u => (hushref16_number.F (B L) u.2).bind fun v => (hushref16_number.F (B L) v.2).bind fun lo => (hushref16_number.F (B L) lo.2).bind fun hi => some (hushref16_Unpack.fin (B L) hi.2 (1, s, n, p.1, t.1, u.1, v.1, lo.1, hi.1, 0, [], 0, 0, 0)))
    (fun l => (txt l).bind fun p => (txt p.2).bind fun t => (num t.2).bind fun u => (num u.2).bind fun w => (num w.2).bind fun lo => (num lo.2).bind fun hi => finQ (1, s, n, p.1, t.1, u.1, w.1, lo.1, hi.1, 0, [], 0, 0, 0) hi.2) := by
  have hN := rnumber_reads L hL
  have hW := rword_reads L hL
  refine rends_bind hW fun p => ?_
  dsimp only
  refine rends_bind hW fun t => ?_
  dsimp only
  refine rends_bind hN fun u => ?_
  dsimp only
  refine rends_bind hN fun v => ?_
  dsimp only
  refine rends_bind hN fun lo => ?_
  dsimp only
  refine rends_bind hN fun hi => ?_
  dsimp only
  exact rends_fin L _
theorem rends_head (L : List UInt8) (hL : L.length ≤ 65536) {G : ByteArray → Int → Int → Option UnM} {Q : ByteArray → Int → List UInt8 → Option UnM} (h : ∀ s n, REnds L (G s n) (Q s n)) : REnds L
    (fun a => (hushref16_word.F (B L) a).bind fun s => (hushref16_number.F (B L) s.2).bind fun n => G s.1 n.1 n.2)
    (fun l => (txt l).bind fun s => (num s.2).bind fun n => Q s.1 n.1 n.2) := by
  refine rends_bind (rword_reads L hL) fun s => ?_
  dsimp only
  refine rends_bind (rnumber_reads L hL) fun n => ?_
  exact h s n
theorem bodyQ_other (c : Int) (h1 : ¬ c = 1) (h2 : ¬ c = 2) (l : List UInt8) : bodyQ c l = none := by
  unfold bodyQ
  cases txt l with
  | none => rfl
  | some s =>
    rw [Option.bind_some]
    cases num s.2 with
    | none => rfl
    | some n => rw [Option.bind_some, if_neg h1, if_neg h2]
theorem unpack_ref (a : ByteArray) : hushref16_Unpack.F a = some (if a.size > 65536 then wire_Unpack.no 4 else (upk a.data.toList).getD (wire_Unpack.no 2)) := by
  rw [hushref16_Unpack.F_eq]
  by_cases h : (a.size : Int) > 65536
  · rw [if_pos h, if_pos (by omega)]
    rfl
  · rw [if_neg h, if_neg (show ¬ a.size > 65536 by omega)]
    have ea : a = B a.data.toList := rfl
    have hl : a.data.toList.length ≤ 65536 := by have : a.size = a.data.toList.length := rfl; omega
    generalize a.data.toList = l at ea hl
    subst ea
    cases l with
    | nil => rfl
    | cons c l =>
      rw [if_neg (by rw [B_size]; simp only [List.length_cons]; omega), B_bt, upk]
      have ed : l = (c :: l).drop 1 := rfl
      by_cases h1 : (c.toNat : Int) = 1
      · rw [if_pos h1, h1]
        have := (rends_head (c :: l) hl (fun s n => rends_one (c :: l) hl s n)).2 1 (by simp)
        rw [← ed] at this
        refine Eq.trans this ?_
        congr 2
      · rw [if_neg h1]
        by_cases h2 : (c.toNat : Int) = 2
        · rw [if_pos h2, h2]
          have := (rends_head (c :: l) hl (fun s n => rends_two (c :: l) hl s n)).2 1 (by simp)
          rw [← ed] at this
          refine Eq.trans this ?_
          congr 2
        · rw [if_neg h2, bodyQ_other _ h1 h2]
          rfl
end Go.Proofs.Ytdfeidpkdbleaaa.Pure
end
section
namespace Go.Proofs.Ytdfeidpkdbleaaa.Pure
set_option linter.unusedVariables false
set_option linter.unusedSimpArgs false
open Go.RowKit Go.Proofs.Ytdfeidpkdbleaaa.PC Go.Proofs.YtdfeidpkdbleaaaW.PrintWords Go.Proofs.YtdfeidpkdbleaaaW.PrintLast Go.Proofs.YtdfeidpkdbleaaaW.PrintMore Go.Proofs.YtdfeidpkdbleaaaW.EvKit
variable {a0 : Int} {a1 : ByteArray} {a2 : Int} {a3 a4 : ByteArray} {a5 a6 a7 a8 a9 : Int} {l10 : List Int} {a11 a12 : Int}
theorem frames_same (b : ByteArray) (hb : b.size ≤ 1048576) : ∃ r, wire_Frame.f b = some r ∧ hushref16_Frame.f b = some r := by
  unfold wire_Frame.f hushref16_Frame.f
  by_cases h0 : (b.size : Int) = 0
  · rw [if_pos h0, if_pos (by omega)]
    exact ⟨_, rfl, rfl⟩
  · rw [if_neg h0, if_neg (show ¬ (b.size : Int) < 1 by omega)]
    by_cases h1 : (b.size : Int) > 65536
    · rw [if_pos h1]
      exact ⟨_, rfl, rfl⟩
    · rw [if_neg h1, Option.bind_some, B_nums, B_size]
      have hl : ∀ l : List Int, l.length = 4 → (l.map fun n : Int => UInt8.ofNat n.toNat).length + b.size ≤ 9223372036854775807 := fun l h => by rw [List.length_map, h]; omega
      rw [if_pos (hl _ rfl)]
      exact ⟨_, rfl, rfl⟩
theorem packs_frames (b : ByteArray) (hb : b.size ≤ 1048576) : hushlaw16_WirePacks.J1 b false = some true := by
  obtain ⟨r, h1, h2⟩ := frames_same b hb
  rw [hushlaw16_WirePacks.J1_eq, if_neg (by decide), h1, h2, Option.bind_some, Option.bind_some, if_pos rfl, beq_self_eq_true]
theorem packs_un (b : ByteArray) (hb : b.size ≤ 1048576) : hushlaw16_WirePacks.J0 b false = some true := by
  obtain ⟨m, h1, h2, hm⟩ : ∃ m : UnM, wire_Unpack.F b = some m ∧ hushref16_Unpack.F b = some m ∧ m.2.2.2.2.2.2.2.2.2.2.1.length ≤ 1048576 := by
    refine ⟨_, unpack_wire b, unpack_ref b, ?_⟩
    by_cases hg : b.size > 65536
    · rw [if_pos hg]
      exact Nat.zero_le _
    · rw [if_neg hg]
      have hl : b.data.toList.length ≤ 65536 := by have : b.size = b.data.toList.length := rfl; omega
      cases hu : upk b.data.toList with
      | none => exact Nat.zero_le _
      | some m =>
        obtain ⟨_, _, h3, h4⟩ := upk_inv b.data.toList hl m hu
        exact h4.sl
  rw [hushlaw16_WirePacks.J0_eq, if_neg (by decide), h1, h2, Option.bind_some, Option.bind_some, same_self2 hm, Option.bind_some, if_pos rfl]
  have e : (m.2.2.2.2.2.2.2.2.2.2.2.2.2 != m.2.2.2.2.2.2.2.2.2.2.2.2.2) = false := by simp
  rw [e]
  exact packs_frames b hb
theorem packs_all (hf : Fits a0 a1 a2 a3 a4 a5 a6 a7 a8 a9 l10 a11 a12) (b : ByteArray) (hb : b.size ≤ 1048576) : hushlaw16_WirePacks.F a0 a1 a2 a3 a4 a5 a6 a7 a8 a9 l10 a11 a12 b = some true := by
  obtain ⟨c, hc⟩ := clean_some (a0 := a0) (a1 := a1) (a2 := a2) (a3 := a3) (a4 := a4) (a5 := a5) (a6 := a6) (a7 := a7) (a8 := a8) (a9 := a9) (l10 := l10) (a11 := a11) (a12 := a12)
  rw [hushlaw16_WirePacks.F_eq, pack_wire hf hc, pack_ref hf hc, Option.bind_some, Option.bind_some, if_pos rfl, bne_self_eq_false]
  exact packs_un b hb
theorem sum_ones2 {α : Type} : ∀ l : List α, (l.map (fun _ => 1)).sum = l.length
  | [] => rfl
  | x :: l => by rw [List.map_cons, List.sum_cons, sum_ones2 l, List.length_cons]; omega
theorem WirePacks : hushlaw16_WirePacks.Pure := by
  rintro m b ⟨h0, h1, h2, h3, h4, ⟨h5, h6⟩, h7, h8, h9, ⟨h10, h11, h12⟩, h13, h14⟩ hb hbulk
  rw [sum_ones2] at hbulk
  have hf : Fits m.f0 m.f1 m.f2 m.f3 m.f4 m.f5.f0 m.f5.f1 m.f6 m.f7 m.f8 m.f9 m.f10.f0 m.f10.f1 := ⟨by omega, by omega, by omega, by omega, wf64 h2, wf64 h5, wf64 h6, wf64 h7, wf64 h8, wf64 h9, wf64 h13, wf64 h14, fun v hv => wf64 (h12 v hv)⟩
  exact (hushlaw16_WirePacks.F_is _ _ _ _ _ _ _ _ _ _ _ _ _ _).rounds (packs_all hf b (by omega))
end Go.Proofs.Ytdfeidpkdbleaaa.Pure
end

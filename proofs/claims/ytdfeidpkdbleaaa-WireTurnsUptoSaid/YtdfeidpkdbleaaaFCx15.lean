/- The functions of the printed module 15 behind all rounds, and their equations. Conditions: none. -/
import Derived.Test.YtdfeidpkdbleaaaPCx15
import Derived.Test.YtdfeidpkdbleaaaLim
import Derived.Test.YtdfeidpkdbleaaaFCx0
import Derived.Test.YtdfeidpkdbleaaaFCx14
namespace Go.Proofs.Ytdfeidpkdbleaaa.PC
open Go.RowKit Go.Proofs.YtdfeidpkdbleaaaW.PrintWords Go.Proofs.YtdfeidpkdbleaaaW.PrintLast Go.Proofs.YtdfeidpkdbleaaaW.PrintMore
open Go.Proofs.YtdfeidpkdbleaaaW.EvKit
set_option linter.unusedVariables false

noncomputable def wire_unpacker_number.F (s0_0 : ByteArray) (s0_1 : Bool) : Option (Int × ByteArray × Bool) := lim (fun k => wire_unpacker_number.f k s0_0 s0_1)
theorem wire_unpacker_number.F_is (s0_0 : ByteArray) (s0_1 : Bool) : LimIs (fun k => wire_unpacker_number.f k s0_0 s0_1) (wire_unpacker_number.F s0_0 s0_1) := ⟨fun k => wire_unpacker_number.mono s0_0 s0_1 k, rfl⟩
noncomputable def wire_unpacker_ratio.F (s0_0 : ByteArray) (s0_1 : Bool) : Option (Int × Int × ByteArray × Bool) := lim (fun k => wire_unpacker_ratio.f k s0_0 s0_1)
theorem wire_unpacker_ratio.F_is (s0_0 : ByteArray) (s0_1 : Bool) : LimIs (fun k => wire_unpacker_ratio.f k s0_0 s0_1) (wire_unpacker_ratio.F s0_0 s0_1) := ⟨fun k => wire_unpacker_ratio.mono s0_0 s0_1 k, rfl⟩
set_option maxRecDepth 100000 in
theorem wire_unpacker_number.F_eq (s0_0 : ByteArray) (s0_1 : Bool) : wire_unpacker_number.F s0_0 s0_1 = (wire_unpacker_count.F s0_0 s0_1).bind fun bt206 => (some (Go.bits .xor .i64 (wrap64 (bt206.1 / 2)) (wrap64 (-(wrap64 (Go.bits .and .u64 bt206.1 1)))), bt206.2.1, bt206.2.2)) := by
  refine LimIs.out (?_ : LimIs (fun k => (wire_unpacker_count.f k s0_0 s0_1).bind fun bt206 => (some (Go.bits .xor .i64 (wrap64 (bt206.1 / 2)) (wrap64 (-(wrap64 (Go.bits .and .u64 bt206.1 1)))), bt206.2.1, bt206.2.2))) _)
  repeat' first
    | (with_reducible exact wire_unpacker_count.F_is _ _)
    | (with_reducible exact LimIs.const _)
    | (with_reducible refine LimIs.ite ?_ ?_)
    | (with_reducible refine LimIs.bind ?_ (fun _ => ?_))
    | exact wire_unpacker_count.F_is _ _
    | exact LimIs.const _
    | refine LimIs.ite ?_ ?_
    | refine LimIs.bind ?_ (fun _ => ?_)
set_option maxRecDepth 100000 in
theorem wire_unpacker_ratio.F_eq (s0_0 : ByteArray) (s0_1 : Bool) : wire_unpacker_ratio.F s0_0 s0_1 = (wire_unpacker_number.F s0_0 s0_1).bind fun bt210 => ((wire_unpacker_number.F bt210.2.1 bt210.2.2).bind fun bt213 => (some (bt210.1, bt213.1, bt213.2.1, bt213.2.2))) := by
  refine LimIs.out (?_ : LimIs (fun k => (wire_unpacker_number.f k s0_0 s0_1).bind fun bt210 => ((wire_unpacker_number.f k bt210.2.1 bt210.2.2).bind fun bt213 => (some (bt210.1, bt213.1, bt213.2.1, bt213.2.2)))) _)
  repeat' first
    | (with_reducible exact wire_unpacker_number.F_is _ _)
    | (with_reducible exact LimIs.const _)
    | (with_reducible refine LimIs.ite ?_ ?_)
    | (with_reducible refine LimIs.bind ?_ (fun _ => ?_))
    | exact wire_unpacker_number.F_is _ _
    | exact LimIs.const _
    | refine LimIs.ite ?_ ?_
    | refine LimIs.bind ?_ (fun _ => ?_)
end Go.Proofs.Ytdfeidpkdbleaaa.PC

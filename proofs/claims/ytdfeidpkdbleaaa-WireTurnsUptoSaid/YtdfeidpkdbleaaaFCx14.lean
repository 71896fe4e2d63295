/- The functions of the printed module 14 behind all rounds, and their equations. Conditions: none. -/
import Derived.Test.YtdfeidpkdbleaaaPCx14
import Derived.Test.YtdfeidpkdbleaaaLim
import Derived.Test.YtdfeidpkdbleaaaFCx0
namespace Go.Proofs.Ytdfeidpkdbleaaa.PC
open Go.RowKit Go.Proofs.YtdfeidpkdbleaaaW.PrintWords Go.Proofs.YtdfeidpkdbleaaaW.PrintLast Go.Proofs.YtdfeidpkdbleaaaW.PrintMore
open Go.Proofs.YtdfeidpkdbleaaaW.EvKit
set_option linter.unusedVariables false

noncomputable def wire_unpacker_count.L0 (x3 : Int) (x4 : Int) (x1000 : ByteArray) (x1001 : Bool) : Option (Int × ByteArray × Bool) := lim (fun k => wire_unpacker_count.l0 k x3 x4 x1000 x1001)
theorem wire_unpacker_count.L0_is (x3 : Int) (x4 : Int) (x1000 : ByteArray) (x1001 : Bool) : LimIs (fun k => wire_unpacker_count.l0 k x3 x4 x1000 x1001) (wire_unpacker_count.L0 x3 x4 x1000 x1001) := ⟨fun k => (wire_unpacker_count.mono_l k).1 x3 x4 x1000 x1001, rfl⟩
noncomputable def wire_unpacker_count.J1 (x3 : Int) (x4 : Int) (x5 : Int) (x21 : Bool) (x1000 : ByteArray) (x1001 : Bool) : Option (Int × ByteArray × Bool) := lim (fun k => wire_unpacker_count.j1 k x3 x4 x5 x21 x1000 x1001)
theorem wire_unpacker_count.J1_is (x3 : Int) (x4 : Int) (x5 : Int) (x21 : Bool) (x1000 : ByteArray) (x1001 : Bool) : LimIs (fun k => wire_unpacker_count.j1 k x3 x4 x5 x21 x1000 x1001) (wire_unpacker_count.J1 x3 x4 x5 x21 x1000 x1001) := ⟨fun k => (wire_unpacker_count.mono_l k).2 x3 x4 x5 x21 x1000 x1001, rfl⟩
noncomputable def wire_unpacker_count.F (s0_0 : ByteArray) (s0_1 : Bool) : Option (Int × ByteArray × Bool) := lim (fun k => wire_unpacker_count.f k s0_0 s0_1)
theorem wire_unpacker_count.F_is (s0_0 : ByteArray) (s0_1 : Bool) : LimIs (fun k => wire_unpacker_count.f k s0_0 s0_1) (wire_unpacker_count.F s0_0 s0_1) := ⟨fun k => wire_unpacker_count.mono s0_0 s0_1 k, rfl⟩
noncomputable def wire_unpacker_text.F (s0_0 : ByteArray) (s0_1 : Bool) : Option (ByteArray × ByteArray × Bool) := lim (fun k => wire_unpacker_text.f k s0_0 s0_1)
theorem wire_unpacker_text.F_is (s0_0 : ByteArray) (s0_1 : Bool) : LimIs (fun k => wire_unpacker_text.f k s0_0 s0_1) (wire_unpacker_text.F s0_0 s0_1) := ⟨fun k => wire_unpacker_text.mono s0_0 s0_1 k, rfl⟩
set_option maxRecDepth 100000 in
theorem wire_unpacker_count.L0_eq (x3 : Int) (x4 : Int) (x1000 : ByteArray) (x1001 : Bool) : wire_unpacker_count.L0 x3 x4 x1000 x1001 = (wire_unpacker_byte.f x1000 x1001).bind fun bt200 => (if bt200.2.2 = true then (wire_unpacker_count.J1 x3 x4 bt200.1 true bt200.2.1 bt200.2.2) else (if x4 = 63 then (wire_unpacker_count.J1 x3 x4 bt200.1 (decide (bt200.1 > 1)) bt200.2.1 bt200.2.2) else (wire_unpacker_count.J1 x3 x4 bt200.1 false bt200.2.1 bt200.2.2))) := by
  refine LimIs.step' (wire_unpacker_count.L0_is x3 x4 x1000 x1001).1 (b := fun k => (wire_unpacker_byte.f x1000 x1001).bind fun bt200 => (if bt200.2.2 = true then (wire_unpacker_count.j1 k x3 x4 bt200.1 true bt200.2.1 bt200.2.2) else (if x4 = 63 then (wire_unpacker_count.j1 k x3 x4 bt200.1 (decide (bt200.1 > 1)) bt200.2.1 bt200.2.2) else (wire_unpacker_count.j1 k x3 x4 bt200.1 false bt200.2.1 bt200.2.2)))) (fun k => by first | rfl | rw [wire_unpacker_count.l0]) ?_
  repeat' first
    | (with_reducible exact wire_unpacker_count.J1_is _ _ _ _ _ _)
    | (with_reducible exact LimIs.const _)
    | (with_reducible refine LimIs.ite ?_ ?_)
    | (with_reducible refine LimIs.bind ?_ (fun _ => ?_))
    | exact wire_unpacker_count.J1_is _ _ _ _ _ _
    | exact LimIs.const _
    | refine LimIs.ite ?_ ?_
    | refine LimIs.bind ?_ (fun _ => ?_)
set_option maxRecDepth 100000 in
theorem wire_unpacker_count.J1_eq (x3 : Int) (x4 : Int) (x5 : Int) (x21 : Bool) (x1000 : ByteArray) (x1001 : Bool) : wire_unpacker_count.J1 x3 x4 x5 x21 x1000 x1001 = if x21 = true then (some (0, x1000, true)) else (if 0 ≤ x4 then (if x5 < 128 then (if x1001 = true then (some (Go.bits .or .u64 x3 (shl .u64 (IntKind.u64.wrap (Go.bits .and .u8 x5 127)) x4), x1000, true)) else (if x5 = 0 then (some (Go.bits .or .u64 x3 (shl .u64 (IntKind.u64.wrap (Go.bits .and .u8 x5 127)) x4), x1000, decide (x4 > 0))) else (some (Go.bits .or .u64 x3 (shl .u64 (IntKind.u64.wrap (Go.bits .and .u8 x5 127)) x4), x1000, false)))) else (wire_unpacker_count.L0 (Go.bits .or .u64 x3 (shl .u64 (IntKind.u64.wrap (Go.bits .and .u8 x5 127)) x4)) (wrap64 (x4 + 7)) x1000 x1001)) else (none)) := by
  refine LimIs.step' (wire_unpacker_count.J1_is x3 x4 x5 x21 x1000 x1001).1 (b := fun k => if x21 = true then (some (0, x1000, true)) else (if 0 ≤ x4 then (if x5 < 128 then (if x1001 = true then (some (Go.bits .or .u64 x3 (shl .u64 (IntKind.u64.wrap (Go.bits .and .u8 x5 127)) x4), x1000, true)) else (if x5 = 0 then (some (Go.bits .or .u64 x3 (shl .u64 (IntKind.u64.wrap (Go.bits .and .u8 x5 127)) x4), x1000, decide (x4 > 0))) else (some (Go.bits .or .u64 x3 (shl .u64 (IntKind.u64.wrap (Go.bits .and .u8 x5 127)) x4), x1000, false)))) else (wire_unpacker_count.l0 k (Go.bits .or .u64 x3 (shl .u64 (IntKind.u64.wrap (Go.bits .and .u8 x5 127)) x4)) (wrap64 (x4 + 7)) x1000 x1001)) else (none))) (fun k => by first | rfl | rw [wire_unpacker_count.j1]) ?_
  repeat' first
    | (with_reducible exact wire_unpacker_count.L0_is _ _ _ _)
    | (with_reducible exact LimIs.const _)
    | (with_reducible refine LimIs.ite ?_ ?_)
    | (with_reducible refine LimIs.bind ?_ (fun _ => ?_))
    | exact wire_unpacker_count.L0_is _ _ _ _
    | exact LimIs.const _
    | refine LimIs.ite ?_ ?_
    | refine LimIs.bind ?_ (fun _ => ?_)
set_option maxRecDepth 100000 in
theorem wire_unpacker_count.F_eq (s0_0 : ByteArray) (s0_1 : Bool) : wire_unpacker_count.F s0_0 s0_1 = wire_unpacker_count.L0 0 0 s0_0 s0_1 := by
  refine LimIs.out (?_ : LimIs (fun k => wire_unpacker_count.l0 k 0 0 s0_0 s0_1) _)
  repeat' first
    | (with_reducible exact wire_unpacker_count.L0_is _ _ _ _)
    | (with_reducible exact LimIs.const _)
    | (with_reducible refine LimIs.ite ?_ ?_)
    | (with_reducible refine LimIs.bind ?_ (fun _ => ?_))
    | exact wire_unpacker_count.L0_is _ _ _ _
    | exact LimIs.const _
    | refine LimIs.ite ?_ ?_
    | refine LimIs.bind ?_ (fun _ => ?_)
set_option maxRecDepth 100000 in
theorem wire_unpacker_text.F_eq (s0_0 : ByteArray) (s0_1 : Bool) : wire_unpacker_text.F s0_0 s0_1 = (wire_unpacker_count.F s0_0 s0_1).bind fun bt203 => (if bt203.2.2 = true then (some ((⟨#[]⟩ : ByteArray), bt203.2.1, true)) else (if bt203.1 > (IntKind.u64.wrap ((bt203.2.1.size : Int))) then (some ((⟨#[]⟩ : ByteArray), bt203.2.1, true)) else (if 0 ≤ bt203.1 then (if bt203.1 ≤ (bt203.2.1.size : Int) then (some (bt203.2.1.extract 0 (bt203.1 : Int).toNat, bt203.2.1.extract (bt203.1 : Int).toNat bt203.2.1.size, bt203.2.2)) else (none)) else (none)))) := by
  refine LimIs.out (?_ : LimIs (fun k => (wire_unpacker_count.f k s0_0 s0_1).bind fun bt203 => (if bt203.2.2 = true then (some ((⟨#[]⟩ : ByteArray), bt203.2.1, true)) else (if bt203.1 > (IntKind.u64.wrap ((bt203.2.1.size : Int))) then (some ((⟨#[]⟩ : ByteArray), bt203.2.1, true)) else (if 0 ≤ bt203.1 then (if bt203.1 ≤ (bt203.2.1.size : Int) then (some (bt203.2.1.extract 0 (bt203.1 : Int).toNat, bt203.2.1.extract (bt203.1 : Int).toNat bt203.2.1.size, bt203.2.2)) else (none)) else (none))))) _)
  repeat' first
    | (with_reducible exact wire_unpacker_count.F_is _ _)
    | (with_reducible exact LimIs.const _)
    | (with_reducible refine LimIs.ite ?_ ?_)
    | (with_reducible refine LimIs.bind ?_ (fun _ => ?_))
    | exact wire_unpacker_count.F_is _ _
    | exact LimIs.const _
    | refine LimIs.ite ?_ ?_
    | refine LimIs.bind ?_ (fun _ => ?_)
end Go.Proofs.Ytdfeidpkdbleaaa.PC

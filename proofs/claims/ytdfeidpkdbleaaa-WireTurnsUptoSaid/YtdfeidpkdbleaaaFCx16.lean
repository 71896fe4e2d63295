/- The functions of the printed module 16 behind all rounds, and their equations. Conditions: none. -/
import Derived.Test.YtdfeidpkdbleaaaPCx16
import Derived.Test.YtdfeidpkdbleaaaLim
import Derived.Test.YtdfeidpkdbleaaaFCx0
import Derived.Test.YtdfeidpkdbleaaaFCx14
import Derived.Test.YtdfeidpkdbleaaaFCx15
namespace Go.Proofs.Ytdfeidpkdbleaaa.PC
open Go.RowKit Go.Proofs.YtdfeidpkdbleaaaW.PrintWords Go.Proofs.YtdfeidpkdbleaaaW.PrintLast Go.Proofs.YtdfeidpkdbleaaaW.PrintMore
open Go.Proofs.YtdfeidpkdbleaaaW.EvKit
set_option linter.unusedVariables false

noncomputable def wire_Unpack.L0 (x0 : Int) (x1 : ByteArray) (x2 : Bool) (x3 : List Int) : Option (List Int × ByteArray × Bool) := lim (fun k => wire_Unpack.l0 k x0 x1 x2 x3)
theorem wire_Unpack.L0_is (x0 : Int) (x1 : ByteArray) (x2 : Bool) (x3 : List Int) : LimIs (fun k => wire_Unpack.l0 k x0 x1 x2 x3) (wire_Unpack.L0 x0 x1 x2 x3) := ⟨fun k => (wire_Unpack.mono_l k) x0 x1 x2 x3, rfl⟩
noncomputable def wire_Unpack.F (a0 : ByteArray) : Option UnM := lim (fun k => wire_Unpack.f k a0)
theorem wire_Unpack.F_is (a0 : ByteArray) : LimIs (fun k => wire_Unpack.f k a0) (wire_Unpack.F a0) := ⟨fun k => wire_Unpack.mono a0 k, rfl⟩
set_option maxRecDepth 100000 in
theorem wire_Unpack.L0_eq (x0 : Int) (x1 : ByteArray) (x2 : Bool) (x3 : List Int) : wire_Unpack.L0 x0 x1 x2 x3 = if x0 > 0 then (if x2 = true then some (x3, x1, x2) else (wire_unpacker_number.F x1 x2).bind fun z => if x3.length < 17592186044416 then wire_Unpack.L0 (x0 - 1) z.2.1 z.2.2 (x3 ++ [z.1]) else none) else some (x3, x1, x2) := by
  refine LimIs.step' (wire_Unpack.L0_is x0 x1 x2 x3).1 (b := fun k => if x0 > 0 then (if x2 = true then some (x3, x1, x2) else (wire_unpacker_number.f k x1 x2).bind fun z => if x3.length < 17592186044416 then wire_Unpack.l0 k (x0 - 1) z.2.1 z.2.2 (x3 ++ [z.1]) else none) else some (x3, x1, x2)) (fun k => by first | rfl | rw [wire_Unpack.l0]) ?_
  repeat' first
    | (with_reducible exact wire_unpacker_number.F_is _ _)
    | (with_reducible exact wire_Unpack.L0_is _ _ _ _)
    | (with_reducible exact LimIs.const _)
    | (with_reducible refine LimIs.ite ?_ ?_)
    | (with_reducible refine LimIs.bind ?_ (fun _ => ?_))
    | exact wire_unpacker_number.F_is _ _
    | exact wire_Unpack.L0_is _ _ _ _
    | exact LimIs.const _
    | refine LimIs.ite ?_ ?_
    | refine LimIs.bind ?_ (fun _ => ?_)
set_option maxRecDepth 100000 in
theorem wire_Unpack.F_eq (a0 : ByteArray) : wire_Unpack.F a0 = if (a0.size : Int) > 65536 then some (wire_Unpack.no 4) else (wire_unpacker_byte.f a0 false).bind fun c => (wire_unpacker_text.F c.2.1 c.2.2).bind fun s => (wire_unpacker_number.F s.2.1 s.2.2).bind fun n => if c.1 = 1 then (wire_unpacker_text.F n.2.1 n.2.2).bind fun p => (wire_unpacker_text.F p.2.1 p.2.2).bind fun t => (wire_unpacker_ratio.F t.2.1 t.2.2).bind fun r => (wire_unpacker_number.F r.2.2.1 r.2.2.2).bind fun lo => (wire_unpacker_number.F lo.2.1 lo.2.2).bind fun hi => wire_Unpack.fin hi.2.1 hi.2.2 (c.1, s.1, n.1, p.1, t.1, r.1, r.2.1, lo.1, hi.1, 0, [], 0, 0, 0) else if c.1 = 2 then (wire_unpacker_number.F n.2.1 n.2.2).bind fun e => (wire_unpacker_count.F e.2.1 e.2.2).bind fun q => if 0 ≤ q.1 ∧ q.1 < 18446744073709551616 then (wire_Unpack.L0 q.1 q.2.1 q.2.2 []).bind fun v => (wire_unpacker_ratio.F v.2.1 v.2.2).bind fun r => wire_Unpack.fin r.2.2.1 r.2.2.2 (c.1, s.1, n.1, ⟨#[]⟩, ⟨#[]⟩, 0, 0, 0, 0, e.1, v.1, r.1, r.2.1, 0) else none else wire_Unpack.fin n.2.1 true (wire_Unpack.no 0) := by
  refine LimIs.out (?_ : LimIs (fun k => if (a0.size : Int) > 65536 then some (wire_Unpack.no 4) else (wire_unpacker_byte.f a0 false).bind fun c => (wire_unpacker_text.f k c.2.1 c.2.2).bind fun s => (wire_unpacker_number.f k s.2.1 s.2.2).bind fun n => if c.1 = 1 then (wire_unpacker_text.f k n.2.1 n.2.2).bind fun p => (wire_unpacker_text.f k p.2.1 p.2.2).bind fun t => (wire_unpacker_ratio.f k t.2.1 t.2.2).bind fun r => (wire_unpacker_number.f k r.2.2.1 r.2.2.2).bind fun lo => (wire_unpacker_number.f k lo.2.1 lo.2.2).bind fun hi => wire_Unpack.fin hi.2.1 hi.2.2 (c.1, s.1, n.1, p.1, t.1, r.1, r.2.1, lo.1, hi.1, 0, [], 0, 0, 0) else if c.1 = 2 then (wire_unpacker_number.f k n.2.1 n.2.2).bind fun e => (wire_unpacker_count.f k e.2.1 e.2.2).bind fun q => if 0 ≤ q.1 ∧ q.1 < 18446744073709551616 then (wire_Unpack.l0 k q.1 q.2.1 q.2.2 []).bind fun v => (wire_unpacker_ratio.f k v.2.1 v.2.2).bind fun r => wire_Unpack.fin r.2.2.1 r.2.2.2 (c.1, s.1, n.1, ⟨#[]⟩, ⟨#[]⟩, 0, 0, 0, 0, e.1, v.1, r.1, r.2.1, 0) else none else wire_Unpack.fin n.2.1 true (wire_Unpack.no 0)) _)
  repeat' first
    | (with_reducible exact wire_unpacker_text.F_is _ _)
    | (with_reducible exact wire_unpacker_number.F_is _ _)
    | (with_reducible exact wire_unpacker_ratio.F_is _ _)
    | (with_reducible exact wire_unpacker_count.F_is _ _)
    | (with_reducible exact wire_Unpack.L0_is _ _ _ _)
    | (with_reducible exact LimIs.const _)
    | (with_reducible refine LimIs.ite ?_ ?_)
    | (with_reducible refine LimIs.bind ?_ (fun _ => ?_))
    | exact wire_unpacker_text.F_is _ _
    | exact wire_unpacker_number.F_is _ _
    | exact wire_unpacker_ratio.F_is _ _
    | exact wire_unpacker_count.F_is _ _
    | exact wire_Unpack.L0_is _ _ _ _
    | exact LimIs.const _
    | refine LimIs.ite ?_ ?_
    | refine LimIs.bind ?_ (fun _ => ?_)
end Go.Proofs.Ytdfeidpkdbleaaa.PC

/- The functions of the printed module 22 behind all rounds, and their equations. Conditions: none. -/
import Derived.Test.YtdfeidpkdbleaaaPCx22
import Derived.Test.YtdfeidpkdbleaaaLim
import Derived.Test.YtdfeidpkdbleaaaFCx0
import Derived.Test.YtdfeidpkdbleaaaFCx7
import Derived.Test.YtdfeidpkdbleaaaFCx10
import Derived.Test.YtdfeidpkdbleaaaFCx16
import Derived.Test.YtdfeidpkdbleaaaFCx19
namespace Go.Proofs.Ytdfeidpkdbleaaa.PC
open Go.RowKit Go.Proofs.YtdfeidpkdbleaaaW.PrintWords Go.Proofs.YtdfeidpkdbleaaaW.PrintLast Go.Proofs.YtdfeidpkdbleaaaW.PrintMore
open Go.Proofs.YtdfeidpkdbleaaaW.EvKit
set_option linter.unusedVariables false

noncomputable def hushlaw16_WireTurns.J0 (x1 : ByteArray) : Option (Bool) := lim (fun k => hushlaw16_WireTurns.j0 k x1)
theorem hushlaw16_WireTurns.J0_is (x1 : ByteArray) : LimIs (fun k => hushlaw16_WireTurns.j0 k x1) (hushlaw16_WireTurns.J0 x1) := ⟨fun k => (hushlaw16_WireTurns.mono_l k) x1, rfl⟩
noncomputable def hushlaw16_WireTurns.F (a0_0 : Int) (a0_1 : ByteArray) (a0_2 : Int) (a0_3 : ByteArray) (a0_4 : ByteArray) (a0_5 : Int) (a0_6 : Int) (a0_7 : Int) (a0_8 : Int) (a0_9 : Int) (l0_10 : List Int) (a0_11 : Int) (a0_12 : Int) (a1 : ByteArray) : Option (Bool) := lim (fun k => hushlaw16_WireTurns.f k a0_0 a0_1 a0_2 a0_3 a0_4 a0_5 a0_6 a0_7 a0_8 a0_9 l0_10 a0_11 a0_12 a1)
theorem hushlaw16_WireTurns.F_is (a0_0 : Int) (a0_1 : ByteArray) (a0_2 : Int) (a0_3 : ByteArray) (a0_4 : ByteArray) (a0_5 : Int) (a0_6 : Int) (a0_7 : Int) (a0_8 : Int) (a0_9 : Int) (l0_10 : List Int) (a0_11 : Int) (a0_12 : Int) (a1 : ByteArray) : LimIs (fun k => hushlaw16_WireTurns.f k a0_0 a0_1 a0_2 a0_3 a0_4 a0_5 a0_6 a0_7 a0_8 a0_9 l0_10 a0_11 a0_12 a1) (hushlaw16_WireTurns.F a0_0 a0_1 a0_2 a0_3 a0_4 a0_5 a0_6 a0_7 a0_8 a0_9 l0_10 a0_11 a0_12 a1) := ⟨fun k => hushlaw16_WireTurns.mono a0_0 a0_1 a0_2 a0_3 a0_4 a0_5 a0_6 a0_7 a0_8 a0_9 l0_10 a0_11 a0_12 a1 k, rfl⟩
set_option maxRecDepth 100000 in
theorem hushlaw16_WireTurns.J0_eq (x1 : ByteArray) : hushlaw16_WireTurns.J0 x1 = (wire_Unpack.F x1).bind fun bt321 => (if bt321.2.2.2.2.2.2.2.2.2.2.2.2.2 = 0 then ((wire_Pack.f bt321.1 bt321.2.1 bt321.2.2.1 bt321.2.2.2.1 bt321.2.2.2.2.1 bt321.2.2.2.2.2.1 bt321.2.2.2.2.2.2.1 bt321.2.2.2.2.2.2.2.1 bt321.2.2.2.2.2.2.2.2.1 bt321.2.2.2.2.2.2.2.2.2.1 bt321.2.2.2.2.2.2.2.2.2.2.1 bt321.2.2.2.2.2.2.2.2.2.2.2.1 bt321.2.2.2.2.2.2.2.2.2.2.2.2.1).bind fun bt338 => (if bt338.2 = 0 then (some (bt338.1.toList == x1.toList)) else (some false))) else (some true)) := by
  refine LimIs.step' (hushlaw16_WireTurns.J0_is x1).1 (b := fun k => (wire_Unpack.f k x1).bind fun bt321 => (if bt321.2.2.2.2.2.2.2.2.2.2.2.2.2 = 0 then ((wire_Pack.f bt321.1 bt321.2.1 bt321.2.2.1 bt321.2.2.2.1 bt321.2.2.2.2.1 bt321.2.2.2.2.2.1 bt321.2.2.2.2.2.2.1 bt321.2.2.2.2.2.2.2.1 bt321.2.2.2.2.2.2.2.2.1 bt321.2.2.2.2.2.2.2.2.2.1 bt321.2.2.2.2.2.2.2.2.2.2.1 bt321.2.2.2.2.2.2.2.2.2.2.2.1 bt321.2.2.2.2.2.2.2.2.2.2.2.2.1).bind fun bt338 => (if bt338.2 = 0 then (some (bt338.1.toList == x1.toList)) else (some false))) else (some true))) (fun k => by first | rfl | rw [hushlaw16_WireTurns.j0]) ?_
  repeat' first
    | (with_reducible exact wire_Unpack.F_is _)
    | (with_reducible exact LimIs.const _)
    | (with_reducible refine LimIs.ite ?_ ?_)
    | (with_reducible refine LimIs.bind ?_ (fun _ => ?_))
    | exact wire_Unpack.F_is _
    | exact LimIs.const _
    | refine LimIs.ite ?_ ?_
    | refine LimIs.bind ?_ (fun _ => ?_)
set_option maxRecDepth 100000 in
theorem hushlaw16_WireTurns.F_eq (a0_0 : Int) (a0_1 : ByteArray) (a0_2 : Int) (a0_3 : ByteArray) (a0_4 : ByteArray) (a0_5 : Int) (a0_6 : Int) (a0_7 : Int) (a0_8 : Int) (a0_9 : Int) (l0_10 : List Int) (a0_11 : Int) (a0_12 : Int) (a1 : ByteArray) : hushlaw16_WireTurns.F a0_0 a0_1 a0_2 a0_3 a0_4 a0_5 a0_6 a0_7 a0_8 a0_9 l0_10 a0_11 a0_12 a1 = (hushlaw16_alive.f).bind fun t300 => (if t300 = true then ((wire_Pack.f a0_0 a0_1 a0_2 a0_3 a0_4 a0_5 a0_6 a0_7 a0_8 a0_9 l0_10 a0_11 a0_12).bind fun bt301 => (if bt301.2 = 0 then ((wire_Unpack.F bt301.1).bind fun bt303 => (if bt303.2.2.2.2.2.2.2.2.2.2.2.2.2 = 0 then ((hushref16_Same.F bt303.1 bt303.2.1 bt303.2.2.1 bt303.2.2.2.1 bt303.2.2.2.2.1 bt303.2.2.2.2.2.1 bt303.2.2.2.2.2.2.1 bt303.2.2.2.2.2.2.2.1 bt303.2.2.2.2.2.2.2.2.1 bt303.2.2.2.2.2.2.2.2.2.1 bt303.2.2.2.2.2.2.2.2.2.2.1 bt303.2.2.2.2.2.2.2.2.2.2.2.1 bt303.2.2.2.2.2.2.2.2.2.2.2.2.1 a0_0 a0_1 a0_2 a0_3 a0_4 a0_5 a0_6 a0_7 a0_8 a0_9 l0_10 a0_11 a0_12).bind fun t320 => (if t320 = true then (hushlaw16_WireTurns.J0 a1) else (some false))) else (some false))) else (hushlaw16_WireTurns.J0 a1))) else (some false)) := by
  refine LimIs.out (?_ : LimIs (fun k => (hushlaw16_alive.f).bind fun t300 => (if t300 = true then ((wire_Pack.f a0_0 a0_1 a0_2 a0_3 a0_4 a0_5 a0_6 a0_7 a0_8 a0_9 l0_10 a0_11 a0_12).bind fun bt301 => (if bt301.2 = 0 then ((wire_Unpack.f k bt301.1).bind fun bt303 => (if bt303.2.2.2.2.2.2.2.2.2.2.2.2.2 = 0 then ((hushref16_Same.f k bt303.1 bt303.2.1 bt303.2.2.1 bt303.2.2.2.1 bt303.2.2.2.2.1 bt303.2.2.2.2.2.1 bt303.2.2.2.2.2.2.1 bt303.2.2.2.2.2.2.2.1 bt303.2.2.2.2.2.2.2.2.1 bt303.2.2.2.2.2.2.2.2.2.1 bt303.2.2.2.2.2.2.2.2.2.2.1 bt303.2.2.2.2.2.2.2.2.2.2.2.1 bt303.2.2.2.2.2.2.2.2.2.2.2.2.1 a0_0 a0_1 a0_2 a0_3 a0_4 a0_5 a0_6 a0_7 a0_8 a0_9 l0_10 a0_11 a0_12).bind fun t320 => (if t320 = true then (hushlaw16_WireTurns.j0 k a1) else (some false))) else (some false))) else (hushlaw16_WireTurns.j0 k a1))) else (some false))) _)
  repeat' first
    | (with_reducible exact wire_Unpack.F_is _)
    | (with_reducible exact hushref16_Same.F_is _ _ _ _ _ _ _ _ _ _ _ _ _ _ _ _ _ _ _ _ _ _ _ _ _ _)
    | (with_reducible exact hushlaw16_WireTurns.J0_is _)
    | (with_reducible exact LimIs.const _)
    | (with_reducible refine LimIs.ite ?_ ?_)
    | (with_reducible refine LimIs.bind ?_ (fun _ => ?_))
    | exact wire_Unpack.F_is _
    | exact hushref16_Same.F_is _ _ _ _ _ _ _ _ _ _ _ _ _ _ _ _ _ _ _ _ _ _ _ _ _ _
    | exact hushlaw16_WireTurns.J0_is _
    | exact LimIs.const _
    | refine LimIs.ite ?_ ?_
    | refine LimIs.bind ?_ (fun _ => ?_)
end Go.Proofs.Ytdfeidpkdbleaaa.PC

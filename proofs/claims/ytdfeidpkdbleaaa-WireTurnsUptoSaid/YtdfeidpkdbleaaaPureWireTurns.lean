/- WireTurns' pure statement. Conditions: bulk at most 1048576. -/
import Derived.Test.YtdfeidpkdbleaaaPCx22
import Derived.Test.YtdfeidpkdbleaaaFCx22
import Derived.Test.YtdfeidpkdbleaaaFCx19
import Derived.Test.YtdfeidpkdbleaaaWireRound
namespace Go.Proofs.Ytdfeidpkdbleaaa.Pure
set_option linter.unusedVariables false
set_option linter.unusedSimpArgs false
open Go.RowKit Go.Proofs.Ytdfeidpkdbleaaa.PC Go.Proofs.YtdfeidpkdbleaaaW.PrintWords Go.Proofs.YtdfeidpkdbleaaaW.PrintLast Go.Proofs.YtdfeidpkdbleaaaW.PrintMore Go.Proofs.YtdfeidpkdbleaaaW.EvKit
variable {a0 : Int} {a1 : ByteArray} {a2 : Int} {a3 a4 : ByteArray} {a5 a6 a7 a8 a9 : Int} {l10 : List Int} {a11 a12 : Int}

theorem turns_alive : hushlaw16_alive.f = some true := by decide +kernel
theorem same_loop (hl : l10.length ≤ 1048576) : ∀ (rest : List Int) (i : Nat), l10.drop i = rest → hushref16_Same.L0 (l10.length : Int) (i : Int) a0 a1 a2 a3 a4 a5 a6 a7 a8 a9 l10 a11 a12 a0 a1 a2 a3 a4 a5 a6 a7 a8 a9 l10 a11 a12 = some true
  | [], i, h => by
    have := congrArg List.length h
    rw [List.length_drop] at this
    simp at this
    rw [hushref16_Same.L0_eq, if_neg (by omega)]
  | v :: rest, i, h => by
    obtain ⟨e1, e2, e3⟩ := getD_drop l10 0 i v rest h
    rw [hushref16_Same.L0_eq, if_pos (by omega), if_pos (by omega), if_pos (by omega), if_pos (by omega), if_pos rfl, wrap64_of (by omega) (by omega), castS]
    exact same_loop hl rest (i + 1) e3
theorem same_self (hl : l10.length ≤ 1048576) : hushref16_Same.F a0 a1 a2 a3 a4 a5 a6 a7 a8 a9 l10 a11 a12 a0 a1 a2 a3 a4 a5 a6 a7 a8 a9 l10 a11 a12 = some true := by
  have e1 : (!(a5 == a5) || (!(a6 == a6))) = false := by simp
  have e2 : (!(a11 == a11) || (!(a12 == a12))) = false := by simp
  have e3 : ((l10.length : Int) != (l10.length : Int)) = false := by simp
  rw [hushref16_Same.F_eq, if_pos rfl, if_pos rfl, if_pos rfl, if_pos rfl, if_pos rfl, e1, if_neg (by decide), if_pos rfl, if_pos rfl, if_pos rfl, e2, if_neg (by decide), e3, hushref16_Same.J0_eq, if_neg (by decide)]
  exact same_loop hl l10 0 rfl

theorem turns_back (b : ByteArray) : hushlaw16_WireTurns.J0 b = some true := by
  rw [hushlaw16_WireTurns.J0_eq, unpack_wire, Option.bind_some]
  by_cases hb : b.size > 65536
  · rw [if_pos hb]
    rfl
  · rw [if_neg hb]
    have hl : b.data.toList.length ≤ 65536 := by have : b.size = b.data.toList.length := rfl; omega
    cases hu : upk b.data.toList with
    | none => rfl
    | some m =>
      obtain ⟨h1, h2, h3, h4⟩ := upk_inv b.data.toList hl m hu
      have hp : packed b.data.toList = (B b.data.toList, 0) := by rw [packed, if_neg (by omega)]
      rw [Option.getD_some, h1, if_pos rfl, pack_wire h4 h3, Option.bind_some, if_pos rfl, ← h2, hp]
      show (if (0 : Int) = 0 then some ((B b.data.toList).toList == b.toList) else some false) = some true
      rw [if_pos rfl, B_toList, ByteArray.toList_eq]
      simp

theorem turns_all (hf : Fits a0 a1 a2 a3 a4 a5 a6 a7 a8 a9 l10 a11 a12) (b : ByteArray) : hushlaw16_WireTurns.F a0 a1 a2 a3 a4 a5 a6 a7 a8 a9 l10 a11 a12 b = some true := by
  obtain ⟨c, hc⟩ := clean_some (a0 := a0) (a1 := a1) (a2 := a2) (a3 := a3) (a4 := a4) (a5 := a5) (a6 := a6) (a7 := a7) (a8 := a8) (a9 := a9) (l10 := l10) (a11 := a11) (a12 := a12)
  rw [hushlaw16_WireTurns.F_eq, turns_alive, Option.bind_some, if_pos rfl, pack_wire hf hc, Option.bind_some]
  generalize hL : pk_list a0 a1 a2 a3 a4 a5 a6 a7 a8 a9 l10 a11 a12 = L
  cases c with
  | false =>
    show (if (2 : Int) = 0 then _ else hushlaw16_WireTurns.J0 b) = some true
    rw [if_neg (by decide)]
    exact turns_back b
  | true =>
    have e : (if true = true then packed L else ((⟨#[]⟩ : ByteArray), (2 : Int))) = packed L := rfl
    rw [e]
    by_cases hgt : L.length > 65536
    · have hp : packed L = (⟨#[]⟩, 4) := by rw [packed, if_pos hgt]
      rw [hp]
      show (if (4 : Int) = 0 then _ else hushlaw16_WireTurns.J0 b) = some true
      rw [if_neg (by decide)]
      exact turns_back b
    · have hp : packed L = (B L, 0) := by rw [packed, if_neg hgt]
      have hu : wire_Unpack.F (B L) = some (a0, a1, a2, a3, a4, a5, a6, a7, a8, a9, l10, a11, a12, 0) := by
        rw [unpack_wire, B_size, if_neg hgt, B_data, ← hL, upk_pk hf hc, Option.getD_some]
      rw [hp, if_pos rfl, hu, Option.bind_some, if_pos rfl]
      dsimp only
      rw [same_self hf.sl, Option.bind_some, if_pos rfl]
      exact turns_back b

theorem sum_ones {α : Type} : ∀ l : List α, (l.map (fun _ => 1)).sum = l.length
  | [] => rfl
  | x :: l => by rw [List.map_cons, List.sum_cons, sum_ones l, List.length_cons]; omega
theorem WireTurns : hushlaw16_WireTurns.Pure := by
  rintro m b ⟨h0, h1, h2, h3, h4, ⟨h5, h6⟩, h7, h8, h9, ⟨h10, h11, h12⟩, h13, h14⟩ hb hbulk
  rw [sum_ones] at hbulk
  have hf : Fits m.f0 m.f1 m.f2 m.f3 m.f4 m.f5.f0 m.f5.f1 m.f6 m.f7 m.f8 m.f9 m.f10.f0 m.f10.f1 := ⟨by omega, by omega, by omega, by omega, wf64 h2, wf64 h5, wf64 h6, wf64 h7, wf64 h8, wf64 h9, wf64 h13, wf64 h14, fun v hv => wf64 (h12 v hv)⟩
  exact (hushlaw16_WireTurns.F_is _ _ _ _ _ _ _ _ _ _ _ _ _ _).rounds (turns_all hf b)
end Go.Proofs.Ytdfeidpkdbleaaa.Pure

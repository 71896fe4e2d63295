/- wire's Pack. Conditions: in each theorem. -/
import Derived.Test.YtdfeidpkdbleaaaWireSpec
import Derived.Test.YtdfeidpkdbleaaaWireB
namespace Go.Proofs.Ytdfeidpkdbleaaa.Pure
set_option linter.unusedVariables false
set_option linter.unusedSimpArgs false
open Go.RowKit Go.Proofs.Ytdfeidpkdbleaaa.PC Go.Proofs.YtdfeidpkdbleaaaW.PrintWords Go.Proofs.YtdfeidpkdbleaaaW.PrintLast Go.Proofs.YtdfeidpkdbleaaaW.PrintMore
def packed (l : List UInt8) : ByteArray × Int := if l.length > 65536 then (⟨#[]⟩, 4) else (B l, 0)
def R64 (a : Int) : Prop := -9223372036854775808 ≤ a ∧ a ≤ 9223372036854775807
structure Fits (a0 : Int) (a1 : ByteArray) (a2 : Int) (a3 a4 : ByteArray) (a5 a6 a7 a8 a9 : Int) (l10 : List Int) (a11 a12 : Int) : Prop where
  s1 : a1.size ≤ 1048576
  s3 : a3.size ≤ 1048576
  s4 : a4.size ≤ 1048576
  sl : l10.length ≤ 1048576
  r2 : R64 a2
  r5 : R64 a5
  r6 : R64 a6
  r7 : R64 a7
  r8 : R64 a8
  r9 : R64 a9
  r11 : R64 a11
  r12 : R64 a12
  rv : ∀ v ∈ l10, R64 v
variable {a0 : Int} {a1 : ByteArray} {a2 : Int} {a3 a4 : ByteArray} {a5 a6 a7 a8 a9 : Int} {l10 : List Int} {a11 a12 : Int}
theorem clean_some : ∃ c, wire_clean.f a0 a1 a2 a3 a4 a5 a6 a7 a8 a9 l10 a11 a12 = some c := by
  unfold wire_clean.f
  repeat' split
  all_goals exact ⟨_, rfl⟩
theorem pack_wire (h : Fits a0 a1 a2 a3 a4 a5 a6 a7 a8 a9 l10 a11 a12) {c : Bool} (hc : wire_clean.f a0 a1 a2 a3 a4 a5 a6 a7 a8 a9 l10 a11 a12 = some c) :
    wire_Pack.f a0 a1 a2 a3 a4 a5 a6 a7 a8 a9 l10 a11 a12 = some (if c = true then packed (pk_list a0 a1 a2 a3 a4 a5 a6 a7 a8 a9 l10 a11 a12) else (⟨#[]⟩, 2)) := by
  have h1 := h.s1
  have h3 := h.s3
  have h4 := h.s4
  have hl := h.sl
  unfold wire_Pack.f
  rw [if_pos ⟨h.r2, h.r5, h.r6, h.r7, h.r8, h.r9, h.r11, h.r12, h.rv⟩]
  unfold wire_Pack.g
  rw [hc, Option.bind_some]
  cases c with
  | false => rfl
  | true =>
    rw [if_pos rfl, if_pos rfl, if_pos (by omega), packed]
    split <;> rfl
end Go.Proofs.Ytdfeidpkdbleaaa.Pure

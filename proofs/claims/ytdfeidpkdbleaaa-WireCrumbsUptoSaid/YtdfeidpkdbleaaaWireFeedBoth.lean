/- Feed of the program and Feed of the reference come to the same. Conditions: what is held is short. -/
import Derived.Test.YtdfeidpkdbleaaaPAx3
import Derived.Test.YtdfeidpkdbleaaaPAx4
import Derived.Test.YtdfeidpkdbleaaaEvKit
import Derived.Laws.BitsLemmas
namespace Go.Proofs.Ytdfeidpkdbleaaa.FeedBoth
open Go.RowKit Go.Proofs.Ytdfeidpkdbleaaa.PA Go.Proofs.YtdfeidpkdbleaaaW.PrintWords Go.Proofs.YtdfeidpkdbleaaaW.PrintLast Go.Proofs.YtdfeidpkdbleaaaW.PrintMore Go.Proofs.YtdfeidpkdbleaaaW.EvKit

theorem wraps_i64 (n : Int) (h₀ : 0 ≤ n) (h₁ : n < 2 ^ 32) : IntKind.i64.wrap n = n := by rw [IntKind.wrap_i64]; omega

/-- The number that four bytes are. -/
def num4 (s : ByteArray) : Int := bt s 0 * 16777216 + bt s 1 * 65536 + bt s 2 * 256 + bt s 3

theorem num4_or (s : ByteArray) : (Go.bits .or .i64 (Go.bits .or .i64 (Go.bits .or .i64 (wrap64 ((wrap64 (bt s 0)) * 16777216)) (wrap64 ((wrap64 (bt s 1)) * 65536))) (wrap64 ((wrap64 (bt s 2)) * 256))) (wrap64 (bt s 3))) = num4 s := by
  have h0 := bt_range s 0
  have h1 := bt_range s 1
  have h2 := bt_range s 2
  have h3 := bt_range s 3
  unfold num4
  rw [wrap64_of (x := bt s 0) (by omega) (by omega), wrap64_of (x := bt s 1) (by omega) (by omega), wrap64_of (x := bt s 2) (by omega) (by omega), wrap64_of (x := bt s 3) (by omega) (by omega),
    wrap64_of (x := bt s 0 * 16777216) (by omega) (by omega), wrap64_of (x := bt s 1 * 65536) (by omega) (by omega), wrap64_of (x := bt s 2 * 256) (by omega) (by omega)]
  rw [bits_join .i64 32 (by decide) wraps_i64 24 (bt s 0 * 16777216) (bt s 1 * 65536) (by omega) (by omega) (by omega) (by omega) (by omega) (by omega)]
  rw [bits_join .i64 32 (by decide) wraps_i64 16 (bt s 0 * 16777216 + bt s 1 * 65536) (bt s 2 * 256) (by omega) (by omega) (by omega) (by omega) (by omega) (by omega)]
  rw [bits_join .i64 32 (by decide) wraps_i64 8 (bt s 0 * 16777216 + bt s 1 * 65536 + bt s 2 * 256) (bt s 3) (by omega) (by omega) (by omega) (by omega) (by omega) (by omega)]
theorem num4_sum (s : ByteArray) : (wrap64 ((wrap64 ((wrap64 ((wrap64 ((wrap64 (bt s 0)) * 16777216)) + (wrap64 ((wrap64 (bt s 1)) * 65536)))) + (wrap64 ((wrap64 (bt s 2)) * 256)))) + (wrap64 (bt s 3)))) = num4 s := by
  have h0 := bt_range s 0
  have h1 := bt_range s 1
  have h2 := bt_range s 2
  have h3 := bt_range s 3
  unfold num4 wrap64
  omega
theorem num4_nonneg (s : ByteArray) : 0 ≤ num4 s ∧ num4 s < 4294967296 := by
  have h0 := bt_range s 0
  have h1 := bt_range s 1
  have h2 := bt_range s 2
  have h3 := bt_range s 3
  unfold num4
  omega

theorem extract_size (s : ByteArray) (a b : Nat) (h : b ≤ s.size) : (s.extract a b).size = b - a := by
  rw [ByteArray.size_extract]; omega
theorem toNat_add4 (n : Int) (h : 0 ≤ n) : (4 + n).toNat = 4 + n.toNat := by omega

/-- Both, from a state on. -/
theorem feed_both : ∀ (n : Nat) (held : ByteArray) (acc : List ByteArray), held.size ≤ n → held.size ≤ 4194304 → acc.length + held.size ≤ 4194304 →
    ∃ outs rest brk, Ev (fun k => wire_Stream_Feed.l0 k acc held false) (outs, (if brk = true then 2 else 0), rest, brk) ∧ Ev (fun k => hushref16_Feed.l0 k held acc) (outs, rest, brk) ∧
      (brk = true → rest = ⟨#[]⟩) ∧ rest.size ≤ held.size ∧ outs.length ≤ acc.length + held.size := by
  intro n
  induction n with
  | zero =>
    intro held acc h0 h1 h2
    refine ⟨acc, held, false, ?_, ?_, by simp, Nat.le_refl _, by omega⟩
    · exact Ev.step (fun k => wire_Stream_Feed.l0.eq_2 _ _ _ k) (Ev.neg (by omega) (Ev.ret _))
    · exact Ev.step (fun k => hushref16_Feed.l0.eq_2 _ _ k) (Ev.neg (by omega) (Ev.ret _))
  | succ n ih =>
    intro held acc h0 h1 h2
    by_cases h4 : (held.size : Int) ≥ 4
    · have hn := num4_nonneg held
      have hw : wrap64 (4 + num4 held) = 4 + num4 held := wrap64_of (by omega) (by omega)
      have hjA : ∀ {b : Bool} {r}, Ev (fun k => wire_Stream_Feed.j1 k acc (num4 held) b held false) r → (b = (decide (num4 held = 0) || decide (num4 held > 65536))) → Ev (fun k => wire_Stream_Feed.l0 k acc held false) r := by
        intro b r h hb
        refine Ev.step (fun k => wire_Stream_Feed.l0.eq_2 _ _ _ k) (Ev.pos h4 (Ev.pos (by omega) (Ev.pos (by omega) (Ev.pos (by omega) (Ev.pos (by omega) ?_)))))
        simp only [num4_or]
        by_cases hz : num4 held = 0
        · refine Ev.pos hz ?_
          rw [hz] at hb ⊢
          simp only [hz] at h
          rw [hb] at h
          simpa using h
        · refine Ev.neg hz ?_
          rw [hb] at h
          simpa [hz] using h
      have hjB : ∀ {b : Bool} {r}, Ev (fun k => hushref16_Feed.j1 k held acc (num4 held) b) r → (b = (decide (num4 held = 0) || decide (num4 held > 65536))) → Ev (fun k => hushref16_Feed.l0 k held acc) r := by
        intro b r h hb
        refine Ev.step (fun k => hushref16_Feed.l0.eq_2 _ _ k) (Ev.pos h4 (Ev.pos (by omega) (Ev.pos (by omega) (Ev.pos (by omega) (Ev.pos (by omega) ?_)))))
        simp only [num4_sum]
        by_cases hz : num4 held < 1
        · have hz' : num4 held = 0 := by omega
          refine Ev.pos hz ?_
          rw [hb] at h
          simpa [hz'] using h
        · have hz' : ¬ num4 held = 0 := by omega
          refine Ev.neg hz ?_
          rw [hb] at h
          simpa [hz'] using h
      by_cases hb : num4 held = 0 ∨ num4 held > 65536
      · have hbb : true = (decide (num4 held = 0) || decide (num4 held > 65536)) := by simpa using hb
        refine ⟨acc, ⟨#[]⟩, true, hjA ?_ hbb, hjB ?_ hbb, by simp, Nat.zero_le _, by omega⟩
        · exact Ev.step (fun k => wire_Stream_Feed.j1.eq_2 _ _ _ _ _ k) (Ev.pos rfl (Ev.ret _))
        · exact Ev.step (fun k => hushref16_Feed.j1.eq_2 _ _ _ _ k) (Ev.pos rfl (Ev.ret _))
      · have hbb : false = (decide (num4 held = 0) || decide (num4 held > 65536)) := by
          simp only [not_or] at hb
          simp [hb.1]
          omega
        by_cases hlt : (held.size : Int) < 4 + num4 held
        · refine ⟨acc, held, false, hjA ?_ hbb, hjB ?_ hbb, by simp, Nat.le_refl _, by omega⟩
          · refine Ev.step (fun k => wire_Stream_Feed.j1.eq_2 _ _ _ _ _ k) (Ev.neg (by simp) (Ev.pos (by rw [hw]; exact hlt) (Ev.ret _)))
          · refine Ev.step (fun k => hushref16_Feed.j1.eq_2 _ _ _ _ k) (Ev.neg (by simp) (Ev.pos (by rw [hw]; exact hlt) (Ev.ret _)))
        · have hsz : (held.extract (4 + num4 held).toNat held.size).size = held.size - (4 + num4 held).toNat := extract_size _ _ _ (Nat.le_refl _)
          have hpos : 1 ≤ num4 held := by omega
          obtain ⟨outs, rest, brk, hA, hB, hr, hle, hol⟩ := ih (held.extract (4 + num4 held).toNat held.size) (acc ++ [held.extract 4 (4 + num4 held).toNat]) (by omega) (by omega) (by simp; omega)
          refine ⟨outs, rest, brk, hjA ?_ hbb, hjB ?_ hbb, hr, by omega, by simp at hol; omega⟩
          · refine Ev.step (fun k => wire_Stream_Feed.j1.eq_2 _ _ _ _ _ k) ?_
            simp only [hw]
            exact Ev.neg (by simp) (Ev.neg hlt (Ev.pos (by omega) (Ev.pos (by omega) (Ev.pos (by omega) (Ev.pos (by omega) hA)))))
          · refine Ev.step (fun k => hushref16_Feed.j1.eq_2 _ _ _ _ k) ?_
            simp only [hw]
            exact Ev.neg (by simp) (Ev.neg hlt (Ev.pos (by omega) (Ev.pos (by omega) (Ev.pos (by omega) (Ev.pos (by omega) hB)))))
    · refine ⟨acc, held, false, ?_, ?_, by simp, Nat.le_refl _, by omega⟩
      · exact Ev.step (fun k => wire_Stream_Feed.l0.eq_2 _ _ _ k) (Ev.neg h4 (Ev.ret _))
      · exact Ev.step (fun k => hushref16_Feed.l0.eq_2 _ _ k) (Ev.neg h4 (Ev.ret _))
end Go.Proofs.Ytdfeidpkdbleaaa.FeedBoth

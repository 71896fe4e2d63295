/- Functions of the translated program as Lean functions, and what their calls come to: written by this session's own program (wip/xprint.py) over the kit's print. Conditions stand in each theorem. -/
import Derived.Test.YtdfeidpkdbleaaaPCx13d
import Derived.Test.YtdfeidpkdbleaaaPCx0
import Derived.Test.YtdfeidpkdbleaaaPCx11
import Derived.Test.YtdfeidpkdbleaaaPCx12
namespace Go.Proofs.Ytdfeidpkdbleaaa.PC
open Go.RowKit Go.Proofs.YtdfeidpkdbleaaaW.PrintWords Go.Proofs.YtdfeidpkdbleaaaW.PrintLast Go.Proofs.YtdfeidpkdbleaaaW.PrintMore
attribute [local go_sem] max2_int min2_int max_two min_two max_three min_three max_four min_four   -- for this text's walks alone
set_option linter.unusedVariables false
set_option linter.unusedSimpArgs false

set_option maxHeartbeats 8000000 in
set_option maxRecDepth 100000 in
theorem hushref16_Pack.calls_b (k : Nat) (a0_0 : Int) (a0_1 : ByteArray) (a0_2 : Int) (a0_3 : ByteArray) (a0_4 : ByteArray) (a0_5 : Int) (a0_6 : Int) (a0_7 : Int) (a0_8 : Int) (a0_9 : Int) (A0_10 : Option Addr) (c0_10 : Nat) (l0_10 : List Int) (a0_11 : Int) (a0_12 : Int) (r1 : ByteArray) (r2 : Int) (w : World) (hr0_10 : Kd.C (Kd.int .i64) w A0_10 l0_10.length l0_10) (hc0_10 : l0_10.length ≤ c0_10) (h : hushref16_Pack.f k a0_0 a0_1 a0_2 a0_3 a0_4 a0_5 a0_6 a0_7 a0_8 a0_9 l0_10 a0_11 a0_12 = some (r1, r2)) (hCase : Aside0 (¬ (a0_0 = 1))) :
    Calls Try.prog 13 #[.agg #[.int .i64 a0_0, .string a0_1, .int .i64 a0_2, .string a0_3, .string a0_4, .int .i64 a0_5, .int .i64 a0_6, .int .i64 a0_7, .int .i64 a0_8, .int .i64 a0_9, .slice A0_10 l0_10.length c0_10, .int .i64 a0_11, .int .i64 a0_12]] w fun e w' => e = .returned (.tuple #[.string r1, .int .i64 r2]) ∧ Below w.heap.size w w' := by
  have hu40 := Try.underlying40
  have hu38 := Try.underlying38
  have HR0_10 := Aside0.mk hr0_10
  have HC0_10 := Aside0.mk hc0_10
  clear hr0_10 hc0_10
  have HB := Aside0.mk (Below.refl w.heap.size w)
  have H : ((hushref16_Clean.f a0_0 a0_1 a0_2 a0_3 a0_4 a0_5 a0_6 a0_7 a0_8 a0_9 l0_10 a0_11 a0_12).bind fun t184 => (if t184 = true then ((some (([(a0_0) % 256] : List Int) : List Int)).bind fun y185 => ((hushref16_text.f k a0_1).bind fun t188 => (if (strOfNums y185).size + t188.size ≤ 9223372036854775807 then ((hushref16_Number.f k a0_2).bind fun t189 => (if ((strOfNums y185) ++ t188).size + t189.size ≤ 9223372036854775807 then (if a0_0 = 1 then ((hushref16_text.f k a0_3).bind fun t190 => (if (((strOfNums y185) ++ t188) ++ t189).size + t190.size ≤ 9223372036854775807 then ((hushref16_text.f k a0_4).bind fun t191 => (if ((((strOfNums y185) ++ t188) ++ t189) ++ t190).size + t191.size ≤ 9223372036854775807 then ((hushref16_ratio.f k a0_5 a0_6).bind fun t192 => (if (((((strOfNums y185) ++ t188) ++ t189) ++ t190) ++ t191).size + t192.size ≤ 9223372036854775807 then ((hushref16_Number.f k a0_7).bind fun t193 => (if ((((((strOfNums y185) ++ t188) ++ t189) ++ t190) ++ t191) ++ t192).size + t193.size ≤ 9223372036854775807 then ((hushref16_Number.f k a0_8).bind fun t194 => (if (((((((strOfNums y185) ++ t188) ++ t189) ++ t190) ++ t191) ++ t192) ++ t193).size + t194.size ≤ 9223372036854775807 then (if (((((((((strOfNums y185) ++ t188) ++ t189) ++ t190) ++ t191) ++ t192) ++ t193) ++ t194).size : Int) > 65536 then (some ((⟨#[]⟩ : ByteArray), 4)) else (some ((((((((strOfNums y185) ++ t188) ++ t189) ++ t190) ++ t191) ++ t192) ++ t193) ++ t194, 0))) else (none))) else (none))) else (none))) else (none))) else (none))) else ((hushref16_Number.f k a0_9).bind fun t195 => (if (((strOfNums y185) ++ t188) ++ t189).size + t195.size ≤ 9223372036854775807 then ((hushref16_Count.f k (IntKind.u64.wrap ((l0_10.length : Int)))).bind fun t196 => (if ((((strOfNums y185) ++ t188) ++ t189) ++ t195).size + t196.size ≤ 9223372036854775807 then (hushref16_Pack.l0 k (((((strOfNums y185) ++ t188) ++ t189) ++ t195) ++ t196) l0_10 (l0_10.length : Int) 0 a0_0 a0_1 a0_2 a0_3 a0_4 a0_5 a0_6 a0_7 a0_8 a0_9 l0_10 a0_11 a0_12) else (none))) else (none)))) else (none))) else (none)))) else (some ((⟨#[]⟩ : ByteArray), 2)))) = some (r1, r2) := h
  clear h
  replace H := Option.bind_eq_some_iff.mp H
  obtain ⟨t184, A20, H⟩ := H
  replace H : (if t184 = true then ((some (([(a0_0) % 256] : List Int) : List Int)).bind fun y185 => ((hushref16_text.f k a0_1).bind fun t188 => (if (strOfNums y185).size + t188.size ≤ 9223372036854775807 then ((hushref16_Number.f k a0_2).bind fun t189 => (if ((strOfNums y185) ++ t188).size + t189.size ≤ 9223372036854775807 then (if a0_0 = 1 then ((hushref16_text.f k a0_3).bind fun t190 => (if (((strOfNums y185) ++ t188) ++ t189).size + t190.size ≤ 9223372036854775807 then ((hushref16_text.f k a0_4).bind fun t191 => (if ((((strOfNums y185) ++ t188) ++ t189) ++ t190).size + t191.size ≤ 9223372036854775807 then ((hushref16_ratio.f k a0_5 a0_6).bind fun t192 => (if (((((strOfNums y185) ++ t188) ++ t189) ++ t190) ++ t191).size + t192.size ≤ 9223372036854775807 then ((hushref16_Number.f k a0_7).bind fun t193 => (if ((((((strOfNums y185) ++ t188) ++ t189) ++ t190) ++ t191) ++ t192).size + t193.size ≤ 9223372036854775807 then ((hushref16_Number.f k a0_8).bind fun t194 => (if (((((((strOfNums y185) ++ t188) ++ t189) ++ t190) ++ t191) ++ t192) ++ t193).size + t194.size ≤ 9223372036854775807 then (if (((((((((strOfNums y185) ++ t188) ++ t189) ++ t190) ++ t191) ++ t192) ++ t193) ++ t194).size : Int) > 65536 then (some ((⟨#[]⟩ : ByteArray), 4)) else (some ((((((((strOfNums y185) ++ t188) ++ t189) ++ t190) ++ t191) ++ t192) ++ t193) ++ t194, 0))) else (none))) else (none))) else (none))) else (none))) else (none))) else ((hushref16_Number.f k a0_9).bind fun t195 => (if (((strOfNums y185) ++ t188) ++ t189).size + t195.size ≤ 9223372036854775807 then ((hushref16_Count.f k (IntKind.u64.wrap ((l0_10.length : Int)))).bind fun t196 => (if ((((strOfNums y185) ++ t188) ++ t189) ++ t195).size + t196.size ≤ 9223372036854775807 then (hushref16_Pack.l0 k (((((strOfNums y185) ++ t188) ++ t189) ++ t195) ++ t196) l0_10 (l0_10.length : Int) 0 a0_0 a0_1 a0_2 a0_3 a0_4 a0_5 a0_6 a0_7 a0_8 a0_9 l0_10 a0_11 a0_12) else (none))) else (none)))) else (none))) else (none)))) else (some ((⟨#[]⟩ : ByteArray), 2))) = some (r1, r2) := H
  have A2 := Aside0.mk A20
  clear A20
  by_cases c3 : t184 = true
  · subst c3
    have H1 : ((some (([(a0_0) % 256] : List Int) : List Int)).bind fun y185 => ((hushref16_text.f k a0_1).bind fun t188 => (if (strOfNums y185).size + t188.size ≤ 9223372036854775807 then ((hushref16_Number.f k a0_2).bind fun t189 => (if ((strOfNums y185) ++ t188).size + t189.size ≤ 9223372036854775807 then (if a0_0 = 1 then ((hushref16_text.f k a0_3).bind fun t190 => (if (((strOfNums y185) ++ t188) ++ t189).size + t190.size ≤ 9223372036854775807 then ((hushref16_text.f k a0_4).bind fun t191 => (if ((((strOfNums y185) ++ t188) ++ t189) ++ t190).size + t191.size ≤ 9223372036854775807 then ((hushref16_ratio.f k a0_5 a0_6).bind fun t192 => (if (((((strOfNums y185) ++ t188) ++ t189) ++ t190) ++ t191).size + t192.size ≤ 9223372036854775807 then ((hushref16_Number.f k a0_7).bind fun t193 => (if ((((((strOfNums y185) ++ t188) ++ t189) ++ t190) ++ t191) ++ t192).size + t193.size ≤ 9223372036854775807 then ((hushref16_Number.f k a0_8).bind fun t194 => (if (((((((strOfNums y185) ++ t188) ++ t189) ++ t190) ++ t191) ++ t192) ++ t193).size + t194.size ≤ 9223372036854775807 then (if (((((((((strOfNums y185) ++ t188) ++ t189) ++ t190) ++ t191) ++ t192) ++ t193) ++ t194).size : Int) > 65536 then (some ((⟨#[]⟩ : ByteArray), 4)) else (some ((((((((strOfNums y185) ++ t188) ++ t189) ++ t190) ++ t191) ++ t192) ++ t193) ++ t194, 0))) else (none))) else (none))) else (none))) else (none))) else (none))) else ((hushref16_Number.f k a0_9).bind fun t195 => (if (((strOfNums y185) ++ t188) ++ t189).size + t195.size ≤ 9223372036854775807 then ((hushref16_Count.f k (IntKind.u64.wrap ((l0_10.length : Int)))).bind fun t196 => (if ((((strOfNums y185) ++ t188) ++ t189) ++ t195).size + t196.size ≤ 9223372036854775807 then (hushref16_Pack.l0 k (((((strOfNums y185) ++ t188) ++ t189) ++ t195) ++ t196) l0_10 (l0_10.length : Int) 0 a0_0 a0_1 a0_2 a0_3 a0_4 a0_5 a0_6 a0_7 a0_8 a0_9 l0_10 a0_11 a0_12) else (none))) else (none)))) else (none))) else (none)))) = some (r1, r2) := by rw [if_pos rfl] at H; exact H
    clear H
    have H := H1
    clear H1
    obtain ⟨y185, hy185⟩ : ∃ y_ : List Int, y_ = (([(a0_0) % 256] : List Int)) := ⟨_, rfl⟩
    replace H : ((hushref16_text.f k a0_1).bind fun t188 => (if (strOfNums y185).size + t188.size ≤ 9223372036854775807 then ((hushref16_Number.f k a0_2).bind fun t189 => (if ((strOfNums y185) ++ t188).size + t189.size ≤ 9223372036854775807 then (if a0_0 = 1 then ((hushref16_text.f k a0_3).bind fun t190 => (if (((strOfNums y185) ++ t188) ++ t189).size + t190.size ≤ 9223372036854775807 then ((hushref16_text.f k a0_4).bind fun t191 => (if ((((strOfNums y185) ++ t188) ++ t189) ++ t190).size + t191.size ≤ 9223372036854775807 then ((hushref16_ratio.f k a0_5 a0_6).bind fun t192 => (if (((((strOfNums y185) ++ t188) ++ t189) ++ t190) ++ t191).size + t192.size ≤ 9223372036854775807 then ((hushref16_Number.f k a0_7).bind fun t193 => (if ((((((strOfNums y185) ++ t188) ++ t189) ++ t190) ++ t191) ++ t192).size + t193.size ≤ 9223372036854775807 then ((hushref16_Number.f k a0_8).bind fun t194 => (if (((((((strOfNums y185) ++ t188) ++ t189) ++ t190) ++ t191) ++ t192) ++ t193).size + t194.size ≤ 9223372036854775807 then (if (((((((((strOfNums y185) ++ t188) ++ t189) ++ t190) ++ t191) ++ t192) ++ t193) ++ t194).size : Int) > 65536 then (some ((⟨#[]⟩ : ByteArray), 4)) else (some ((((((((strOfNums y185) ++ t188) ++ t189) ++ t190) ++ t191) ++ t192) ++ t193) ++ t194, 0))) else (none))) else (none))) else (none))) else (none))) else (none))) else ((hushref16_Number.f k a0_9).bind fun t195 => (if (((strOfNums y185) ++ t188) ++ t189).size + t195.size ≤ 9223372036854775807 then ((hushref16_Count.f k (IntKind.u64.wrap ((l0_10.length : Int)))).bind fun t196 => (if ((((strOfNums y185) ++ t188) ++ t189) ++ t195).size + t196.size ≤ 9223372036854775807 then (hushref16_Pack.l0 k (((((strOfNums y185) ++ t188) ++ t189) ++ t195) ++ t196) l0_10 (l0_10.length : Int) 0 a0_0 a0_1 a0_2 a0_3 a0_4 a0_5 a0_6 a0_7 a0_8 a0_9 l0_10 a0_11 a0_12) else (none))) else (none)))) else (none))) else (none))) = some (r1, r2) := by first | (rw [hy185]; with_reducible exact H) | (have H2_ := (Option.bind_some _ _).symm.trans H; rw [hy185]; with_reducible exact H2_) | (have H2_ := (Option.bind_some _ _).symm.trans H; with_reducible exact H2_) | with_reducible exact H | (rw [hy185]; exact H) | exact H
    have Ny185 := Aside0.mk hy185
    clear hy185
    replace H := Option.bind_eq_some_iff.mp H
    obtain ⟨t188, A40, H⟩ := H
    replace H : (if (strOfNums y185).size + t188.size ≤ 9223372036854775807 then ((hushref16_Number.f k a0_2).bind fun t189 => (if ((strOfNums y185) ++ t188).size + t189.size ≤ 9223372036854775807 then (if a0_0 = 1 then ((hushref16_text.f k a0_3).bind fun t190 => (if (((strOfNums y185) ++ t188) ++ t189).size + t190.size ≤ 9223372036854775807 then ((hushref16_text.f k a0_4).bind fun t191 => (if ((((strOfNums y185) ++ t188) ++ t189) ++ t190).size + t191.size ≤ 9223372036854775807 then ((hushref16_ratio.f k a0_5 a0_6).bind fun t192 => (if (((((strOfNums y185) ++ t188) ++ t189) ++ t190) ++ t191).size + t192.size ≤ 9223372036854775807 then ((hushref16_Number.f k a0_7).bind fun t193 => (if ((((((strOfNums y185) ++ t188) ++ t189) ++ t190) ++ t191) ++ t192).size + t193.size ≤ 9223372036854775807 then ((hushref16_Number.f k a0_8).bind fun t194 => (if (((((((strOfNums y185) ++ t188) ++ t189) ++ t190) ++ t191) ++ t192) ++ t193).size + t194.size ≤ 9223372036854775807 then (if (((((((((strOfNums y185) ++ t188) ++ t189) ++ t190) ++ t191) ++ t192) ++ t193) ++ t194).size : Int) > 65536 then (some ((⟨#[]⟩ : ByteArray), 4)) else (some ((((((((strOfNums y185) ++ t188) ++ t189) ++ t190) ++ t191) ++ t192) ++ t193) ++ t194, 0))) else (none))) else (none))) else (none))) else (none))) else (none))) else ((hushref16_Number.f k a0_9).bind fun t195 => (if (((strOfNums y185) ++ t188) ++ t189).size + t195.size ≤ 9223372036854775807 then ((hushref16_Count.f k (IntKind.u64.wrap ((l0_10.length : Int)))).bind fun t196 => (if ((((strOfNums y185) ++ t188) ++ t189) ++ t195).size + t196.size ≤ 9223372036854775807 then (hushref16_Pack.l0 k (((((strOfNums y185) ++ t188) ++ t189) ++ t195) ++ t196) l0_10 (l0_10.length : Int) 0 a0_0 a0_1 a0_2 a0_3 a0_4 a0_5 a0_6 a0_7 a0_8 a0_9 l0_10 a0_11 a0_12) else (none))) else (none)))) else (none))) else (none)) = some (r1, r2) := H
    have A4 := Aside0.mk A40
    clear A40
    by_cases c5 : (strOfNums y185).size + t188.size ≤ 9223372036854775807
    · rw [if_pos c5] at H
      have c5b0 := eq_true c5
      have c5b1 : decide ((strOfNums y185).size + t188.size ≤ 9223372036854775807) = true := decide_eq_true c5
      try have c5b2 : (9223372036854775807 < (strOfNums y185).size + t188.size) = False := eq_false (Nat.not_lt.2 c5)
      replace H := Option.bind_eq_some_iff.mp H
      obtain ⟨t189, A60, H⟩ := H
      replace H : (if ((strOfNums y185) ++ t188).size + t189.size ≤ 9223372036854775807 then (if a0_0 = 1 then ((hushref16_text.f k a0_3).bind fun t190 => (if (((strOfNums y185) ++ t188) ++ t189).size + t190.size ≤ 9223372036854775807 then ((hushref16_text.f k a0_4).bind fun t191 => (if ((((strOfNums y185) ++ t188) ++ t189) ++ t190).size + t191.size ≤ 9223372036854775807 then ((hushref16_ratio.f k a0_5 a0_6).bind fun t192 => (if (((((strOfNums y185) ++ t188) ++ t189) ++ t190) ++ t191).size + t192.size ≤ 9223372036854775807 then ((hushref16_Number.f k a0_7).bind fun t193 => (if ((((((strOfNums y185) ++ t188) ++ t189) ++ t190) ++ t191) ++ t192).size + t193.size ≤ 9223372036854775807 then ((hushref16_Number.f k a0_8).bind fun t194 => (if (((((((strOfNums y185) ++ t188) ++ t189) ++ t190) ++ t191) ++ t192) ++ t193).size + t194.size ≤ 9223372036854775807 then (if (((((((((strOfNums y185) ++ t188) ++ t189) ++ t190) ++ t191) ++ t192) ++ t193) ++ t194).size : Int) > 65536 then (some ((⟨#[]⟩ : ByteArray), 4)) else (some ((((((((strOfNums y185) ++ t188) ++ t189) ++ t190) ++ t191) ++ t192) ++ t193) ++ t194, 0))) else (none))) else (none))) else (none))) else (none))) else (none))) else ((hushref16_Number.f k a0_9).bind fun t195 => (if (((strOfNums y185) ++ t188) ++ t189).size + t195.size ≤ 9223372036854775807 then ((hushref16_Count.f k (IntKind.u64.wrap ((l0_10.length : Int)))).bind fun t196 => (if ((((strOfNums y185) ++ t188) ++ t189) ++ t195).size + t196.size ≤ 9223372036854775807 then (hushref16_Pack.l0 k (((((strOfNums y185) ++ t188) ++ t189) ++ t195) ++ t196) l0_10 (l0_10.length : Int) 0 a0_0 a0_1 a0_2 a0_3 a0_4 a0_5 a0_6 a0_7 a0_8 a0_9 l0_10 a0_11 a0_12) else (none))) else (none)))) else (none)) = some (r1, r2) := H
      have A6 := Aside0.mk A60
      clear A60
      by_cases c7 : ((strOfNums y185) ++ t188).size + t189.size ≤ 9223372036854775807
      · rw [if_pos c7] at H
        have c7b0 := eq_true c7
        have c7b1 : decide (((strOfNums y185) ++ t188).size + t189.size ≤ 9223372036854775807) = true := decide_eq_true c7
        try (have c7b6 := c7b1; simp only [ByteArray.size_append] at c7b6)
        try have c7b2 : (9223372036854775807 < ((strOfNums y185) ++ t188).size + t189.size) = False := eq_false (Nat.not_lt.2 c7)
        try (have c7b3 := c7b2; simp only [ByteArray.size_append] at c7b3)
        by_cases c8 : a0_0 = 1
        · exact absurd c8 hCase.out
        · rw [if_neg c8] at H
          have c8b0 : (a0_0 == 1) = false := beq_eq_false_iff_ne.mpr c8
          have c8b1 : (a0_0 != 1) = true := bne_iff_ne.mpr c8
          replace H := Option.bind_eq_some_iff.mp H
          obtain ⟨t195, A540, H⟩ := H
          replace H : (if (((strOfNums y185) ++ t188) ++ t189).size + t195.size ≤ 9223372036854775807 then ((hushref16_Count.f k (IntKind.u64.wrap ((l0_10.length : Int)))).bind fun t196 => (if ((((strOfNums y185) ++ t188) ++ t189) ++ t195).size + t196.size ≤ 9223372036854775807 then (hushref16_Pack.l0 k (((((strOfNums y185) ++ t188) ++ t189) ++ t195) ++ t196) l0_10 (l0_10.length : Int) 0 a0_0 a0_1 a0_2 a0_3 a0_4 a0_5 a0_6 a0_7 a0_8 a0_9 l0_10 a0_11 a0_12) else (none))) else (none)) = some (r1, r2) := H
          have A54 := Aside0.mk A540
          clear A540
          by_cases c55 : (((strOfNums y185) ++ t188) ++ t189).size + t195.size ≤ 9223372036854775807
          · rw [if_pos c55] at H
            have c55b0 := eq_true c55
            have c55b1 : decide ((((strOfNums y185) ++ t188) ++ t189).size + t195.size ≤ 9223372036854775807) = true := decide_eq_true c55
            try (have c55b6 := c55b1; simp only [ByteArray.size_append] at c55b6)
            try have c55b2 : (9223372036854775807 < (((strOfNums y185) ++ t188) ++ t189).size + t195.size) = False := eq_false (Nat.not_lt.2 c55)
            try (have c55b3 := c55b2; simp only [ByteArray.size_append] at c55b3)
            replace H := Option.bind_eq_some_iff.mp H
            obtain ⟨t196, A560, H⟩ := H
            replace H : (if ((((strOfNums y185) ++ t188) ++ t189) ++ t195).size + t196.size ≤ 9223372036854775807 then (hushref16_Pack.l0 k (((((strOfNums y185) ++ t188) ++ t189) ++ t195) ++ t196) l0_10 (l0_10.length : Int) 0 a0_0 a0_1 a0_2 a0_3 a0_4 a0_5 a0_6 a0_7 a0_8 a0_9 l0_10 a0_11 a0_12) else (none)) = some (r1, r2) := H
            have A56 := Aside0.mk A560
            clear A560
            by_cases c57 : ((((strOfNums y185) ++ t188) ++ t189) ++ t195).size + t196.size ≤ 9223372036854775807
            · rw [if_pos c57] at H
              have c57b0 := eq_true c57
              have c57b1 : decide (((((strOfNums y185) ++ t188) ++ t189) ++ t195).size + t196.size ≤ 9223372036854775807) = true := decide_eq_true c57
              try (have c57b6 := c57b1; simp only [ByteArray.size_append] at c57b6)
              try have c57b2 : (9223372036854775807 < ((((strOfNums y185) ++ t188) ++ t189) ++ t195).size + t196.size) = False := eq_false (Nat.not_lt.2 c57)
              try (have c57b3 := c57b2; simp only [ByteArray.size_append] at c57b3)
              have H' := Aside0.mk H
              clear H
              go_enter Try.func13, Try.ntmps13
              try go_wp2_with (first | ((with_reducible refine gate_dst (N := 1) rfl ?_); refine box_event ?hg (N := 1) ?hd (cs := #[.int .i64 a0_0, .string a0_1, .int .i64 a0_2, .string a0_3, .string a0_4, .int .i64 a0_5, .int .i64 a0_6, .int .i64 a0_7, .int .i64 a0_8, .int .i64 a0_9, .slice A0_10 l0_10.length c0_10, .int .i64 a0_11, .int .i64 a0_12]) (t := 40) ?hr ?_; (case hd => rfl); (case hg => rfl); (case hr => first | (go_simp; done) | (go_simp; rfl)); intro gb183 hg w58 hbox hb; have n0_ := Aside0.mk (below_step (by repeat (first | (with_reducible first | exact HB.out | apply below_alloc | apply pw_below_drewN | apply below_drew1) | exact HB.out)) hb); have n1_ := Aside0.mk (hbox); have n2_ := Aside0.mk ((by rw [hg]; exact (below_size (by repeat (first | (with_reducible first | exact HB.out | apply below_alloc | apply pw_below_drewN | apply below_drew1) | exact HB.out))) : w.heap.size ≤ gb183)); have n3_ := Aside0.mk ((by rw [hg]; exact (below_size (by repeat (first | (with_reducible first | exact HB.out | apply below_alloc | apply pw_below_drewN | apply below_drew1) | exact HB.out))) : w.heap.size ≤ gb183)); clear HB; have HB := n0_; have BK183 := n1_; have GW183 := n2_; have GE183 := n3_; clear n0_ n1_ n2_ n3_; clear hb hbox hg; have hcz59_0 : w58.cell? ⟨gb183, 0, none⟩ = some (.int .i64 a0_0) := (blk_cell BK183.out 0).trans rfl; have hcz59_1 : w58.cell? ⟨gb183, 1, none⟩ = some (.string a0_1) := (blk_cell BK183.out 1).trans rfl; have hcz59_2 : w58.cell? ⟨gb183, 2, none⟩ = some (.int .i64 a0_2) := (blk_cell BK183.out 2).trans rfl; have hcz59_3 : w58.cell? ⟨gb183, 3, none⟩ = some (.string a0_3) := (blk_cell BK183.out 3).trans rfl; have hcz59_4 : w58.cell? ⟨gb183, 4, none⟩ = some (.string a0_4) := (blk_cell BK183.out 4).trans rfl; have hcz59_5 : w58.cell? ⟨gb183, 5, none⟩ = some (.int .i64 a0_5) := (blk_cell BK183.out 5).trans rfl; have hcz59_6 : w58.cell? ⟨gb183, 6, none⟩ = some (.int .i64 a0_6) := (blk_cell BK183.out 6).trans rfl; have hcz59_7 : w58.cell? ⟨gb183, 7, none⟩ = some (.int .i64 a0_7) := (blk_cell BK183.out 7).trans rfl; have hcz59_8 : w58.cell? ⟨gb183, 8, none⟩ = some (.int .i64 a0_8) := (blk_cell BK183.out 8).trans rfl; have hcz59_9 : w58.cell? ⟨gb183, 9, none⟩ = some (.int .i64 a0_9) := (blk_cell BK183.out 9).trans rfl; have hcz59_10 : w58.cell? ⟨gb183, 10, none⟩ = some (.slice A0_10 l0_10.length c0_10) := (blk_cell BK183.out 10).trans rfl; have hcz59_11 : w58.cell? ⟨gb183, 11, none⟩ = some (.int .i64 a0_11) := (blk_cell BK183.out 11).trans rfl; have hcz59_12 : w58.cell? ⟨gb183, 12, none⟩ = some (.int .i64 a0_12) := (blk_cell BK183.out 12).trans rfl; have hfz59_0 := blk_frozen BK183.out 0; have hfz59_1 := blk_frozen BK183.out 1; have hfz59_2 := blk_frozen BK183.out 2; have hfz59_3 := blk_frozen BK183.out 3; have hfz59_4 := blk_frozen BK183.out 4; have hfz59_5 := blk_frozen BK183.out 5; have hfz59_6 := blk_frozen BK183.out 6; have hfz59_7 := blk_frozen BK183.out 7; have hfz59_8 := blk_frozen BK183.out 8; have hfz59_9 := blk_frozen BK183.out 9; have hfz59_10 := blk_frozen BK183.out 10; have hfz59_11 := blk_frozen BK183.out 11; have hfz59_12 := blk_frozen BK183.out 12) | ((with_reducible refine gate_callee (f := 28) rfl ?_); refine goesL_ (some 8) rfl rfl Try.func28 (by kernel_rfl) rfl #[.agg #[.int .i64 a0_0, .string a0_1, .int .i64 a0_2, .string a0_3, .string a0_4, .int .i64 a0_5, .int .i64 a0_6, .int .i64 a0_7, .int .i64 a0_8, .int .i64 a0_9, .slice A0_10 l0_10.length c0_10, .int .i64 a0_11, .int .i64 a0_12]] rfl (by (try simp only [List.map_toArray, List.map_cons, List.map_nil]); first | done | rfl | (simp only [List.length_drop, List.length_take]; rfl)) ?_; (with_reducible refine (hushref16_Clean.calls a0_0 a0_1 a0_2 a0_3 a0_4 a0_5 a0_6 a0_7 a0_8 a0_9 _ _ l0_10 a0_11 a0_12 true _ ?side1 ?side2 A2.out).mono ?_); (case side1 => repeat (first | exact (Kd.C_below HR0_10.out HB.out) | (with_reducible refine Kd.C_alloc ?_ _) | (with_reducible refine Kd.C_drewN ?_ _) | (with_reducible refine Kd.C_drew ?_))); (case side2 => exact HC0_10.out); rintro e w60 ⟨rfl, hb⟩; refine ⟨_, rfl, ?_⟩; have n0_ := Aside0.mk (blk_below (g := gb183) (o := .cells #[.int .i64 a0_0, .string a0_1, .int .i64 a0_2, .string a0_3, .string a0_4, .int .i64 a0_5, .int .i64 a0_6, .int .i64 a0_7, .int .i64 a0_8, .int .i64 a0_9, .slice A0_10 l0_10.length c0_10, .int .i64 a0_11, .int .i64 a0_12] 40 (0, 0)) (by (with_reducible repeat (first | refine blk_drewN ?_ _ | refine blk_drew ?_ | refine blk_alloc ?_ _)); exact BK183.out) hb); have n1_ := Aside0.mk (below_step (by repeat (first | (with_reducible first | exact HB.out | apply below_alloc | apply pw_below_drewN | apply below_drew1 | refine below_set ?_ GE183.out) | exact HB.out)) hb); clear BK183; clear HB; have BK183 := n0_; have HB := n1_; clear n0_ n1_; (try clear hb); (try clear hb2); (try clear hk); (try clear hi)))
              have n0_ := Aside0.mk (blk_drew BK183.out)
              have n1_ := Aside0.mk (below_drew1 HB.out)
              clear BK183
              clear HB
              have BK183 := n0_
              have HB := n1_
              clear n0_ n1_
              refine start_ (n := 14) (S := fun w' => w'.cell? ⟨gb183, 0, none⟩ = some (.int .i64 a0_0) ∧ w'.cell? ⟨gb183, 1, none⟩ = some (.string a0_1) ∧ w'.cell? ⟨gb183, 2, none⟩ = some (.int .i64 a0_2) ∧ w'.cell? ⟨gb183, 3, none⟩ = some (.string a0_3) ∧ w'.cell? ⟨gb183, 4, none⟩ = some (.string a0_4) ∧ w'.cell? ⟨gb183, 5, none⟩ = some (.int .i64 a0_5) ∧ w'.cell? ⟨gb183, 6, none⟩ = some (.int .i64 a0_6) ∧ w'.cell? ⟨gb183, 7, none⟩ = some (.int .i64 a0_7) ∧ w'.cell? ⟨gb183, 8, none⟩ = some (.int .i64 a0_8) ∧ w'.cell? ⟨gb183, 9, none⟩ = some (.int .i64 a0_9) ∧ w'.cell? ⟨gb183, 10, none⟩ = some (.slice A0_10 l0_10.length c0_10) ∧ w'.cell? ⟨gb183, 11, none⟩ = some (.int .i64 a0_11) ∧ w'.cell? ⟨gb183, 12, none⟩ = some (.int .i64 a0_12)) (ds := []) #[false, false, false, false, false, false, false, false, false, false, false, false, false, false] (by kernel_rfl) rfl rfl ⟨(blk_cell BK183.out 0).trans rfl, (blk_cell BK183.out 1).trans rfl, (blk_cell BK183.out 2).trans rfl, (blk_cell BK183.out 3).trans rfl, (blk_cell BK183.out 4).trans rfl, (blk_cell BK183.out 5).trans rfl, (blk_cell BK183.out 6).trans rfl, (blk_cell BK183.out 7).trans rfl, (blk_cell BK183.out 8).trans rfl, (blk_cell BK183.out 9).trans rfl, (blk_cell BK183.out 10).trans rfl, (blk_cell BK183.out 11).trans rfl, (blk_cell BK183.out 12).trans rfl⟩ (fun hHeld => ?_); refine with_tabW hushref16_Pack.tab3 hushref16_Pack.bits3 (fun HT_ HW_ => ?_)
              generalize w60.drew = w61 at BK183 HB hHeld ⊢
              refine pure_ (i := 0) (N := some 10) (v := ?_) (a' := ?_) #[true, false, false, false, false, false, false, false, false, false, false, false, false, false] rfl rfl (any_of HT_.out (by kernel_rfl)) (fun _ _ _ h => h) (Or.inl ⟨by rfl, ?_⟩) ?_ ?_
              rotate_left
              · intro w'
                go_simp
                with_reducible rfl
              rotate_left
              · simp only [Act.put, List.setIfInBounds_toArray, List.set_cons_zero, List.set_cons_succ, i64_w, i32_w]
                rfl
              refine pure_ (i := 5) (N := some 15) (v := ?_) (a' := ?_) #[true, false, false, false, false, true, false, false, false, false, false, false, false, false] rfl rfl (any_of HT_.out (by kernel_rfl)) (fun _ _ _ h => h) (Or.inl ⟨by rfl, ?_⟩) ?_ ?_
              rotate_left
              · intro w'
                go_simp
                with_reducible rfl
              rotate_left
              · simp only [Act.put, List.setIfInBounds_toArray, List.set_cons_zero, List.set_cons_succ, i64_w, i32_w]
                rfl
              refine pure_ (i := 9) (N := some 19) (v := ?_) (a' := ?_) #[true, false, false, false, false, true, false, false, false, true, false, false, false, false] rfl rfl (any_of HT_.out (by kernel_rfl)) (fun _ _ _ h => h) (Or.inl ⟨by rfl, ?_⟩) ?_ ?_
              rotate_left
              · intro w'
                go_simp
                with_reducible rfl
              rotate_left
              · simp only [Act.put, List.setIfInBounds_toArray, List.set_cons_zero, List.set_cons_succ, i64_w, i32_w]
                rfl
              refine take_ (i := 1) (N := some 11) (v := ?_) (a' := ?_) #[true, true, false, false, false, true, false, false, false, true, false, false, false, false] rfl rfl (take_ofW HT_.out HW_.out (by kernel_rfl)) (fun _ _ _ h => h) (Or.inl ⟨by rfl, ?_⟩) hHeld ?_ ?_
              rotate_left
              · rintro w' ⟨s0, s1, s2, s3, s4, s5, s6, s7, s8, s9, s10, s11, s12⟩
                go_simp
                with_reducible rfl
              rotate_left
              · simp only [Act.put, List.setIfInBounds_toArray, List.set_cons_zero, List.set_cons_succ, i64_w, i32_w]
                rfl
              refine pure_ (i := 2) (N := some 12) (v := ?_) (a' := ?_) #[true, true, true, false, false, true, false, false, false, true, false, false, false, false] rfl rfl (any_of HT_.out (by kernel_rfl)) (fun _ _ _ h => h) (Or.inl ⟨by rfl, ?_⟩) ?_ ?_
              rotate_left
              · intro w'
                go_simp
                with_reducible rfl
              rotate_left
              · simp only [Act.put, List.setIfInBounds_toArray, List.set_cons_zero, List.set_cons_succ, i64_w, i32_w]
                rfl
              refine take_ (i := 6) (N := some 16) (v := ?_) (a' := ?_) #[true, true, true, false, false, true, true, false, false, true, false, false, false, false] rfl rfl (take_ofW HT_.out HW_.out (by kernel_rfl)) (fun _ _ _ h => h) (Or.inl ⟨by rfl, ?_⟩) hHeld ?_ ?_
              rotate_left
              · rintro w' ⟨s0, s1, s2, s3, s4, s5, s6, s7, s8, s9, s10, s11, s12⟩
                go_simp
                with_reducible rfl
              rotate_left
              · simp only [Act.put, List.setIfInBounds_toArray, List.set_cons_zero, List.set_cons_succ, i64_w, i32_w]
                rfl
              refine take_ (i := 10) (N := some 20) (v := ?_) (a' := ?_) #[true, true, true, false, false, true, true, false, false, true, true, false, false, false] rfl rfl (take_ofW HT_.out HW_.out (by kernel_rfl)) (fun _ _ _ h => h) (Or.inl ⟨by rfl, ?_⟩) hHeld ?_ ?_
              rotate_left
              · rintro w' ⟨s0, s1, s2, s3, s4, s5, s6, s7, s8, s9, s10, s11, s12⟩
                go_simp
                with_reducible rfl
              rotate_left
              · simp only [Act.put, List.setIfInBounds_toArray, List.set_cons_zero, List.set_cons_succ, i64_w, i32_w]
                rfl
              refine join_ (σ := Value) 2 #[true, true, true, true, true, true, true, true, true, true, true, true, false, false] (fun s_ => [(13, s_), (14, .string (strOfNums y185)), (17, .string t188), (21, .string t189), (18, .string ((strOfNums y185) ++ t188))]) (fun s_ w' => (w'.cell? ⟨gb183, 0, none⟩ = some (.int .i64 a0_0) ∧ w'.cell? ⟨gb183, 1, none⟩ = some (.string a0_1) ∧ w'.cell? ⟨gb183, 2, none⟩ = some (.int .i64 a0_2) ∧ w'.cell? ⟨gb183, 3, none⟩ = some (.string a0_3) ∧ w'.cell? ⟨gb183, 4, none⟩ = some (.string a0_4) ∧ w'.cell? ⟨gb183, 5, none⟩ = some (.int .i64 a0_5) ∧ w'.cell? ⟨gb183, 6, none⟩ = some (.int .i64 a0_6) ∧ w'.cell? ⟨gb183, 7, none⟩ = some (.int .i64 a0_7) ∧ w'.cell? ⟨gb183, 8, none⟩ = some (.int .i64 a0_8) ∧ w'.cell? ⟨gb183, 9, none⟩ = some (.int .i64 a0_9) ∧ w'.cell? ⟨gb183, 10, none⟩ = some (.slice A0_10 l0_10.length c0_10) ∧ w'.cell? ⟨gb183, 11, none⟩ = some (.int .i64 a0_11) ∧ w'.cell? ⟨gb183, 12, none⟩ = some (.int .i64 a0_12)) ∧ (Kd.R (Kd.int .u8) 5 w' w.heap.size (fun _ => True) s_ y185) ∧ (w'.heap[gb183]? = some (.cells #[.int .i64 a0_0, .string a0_1, .int .i64 a0_2, .string a0_3, .string a0_4, .int .i64 a0_5, .int .i64 a0_6, .int .i64 a0_7, .int .i64 a0_8, .int .i64 a0_9, .slice A0_10 l0_10.length c0_10, .int .i64 a0_11, .int .i64 a0_12] 40 (0, 0))) ∧ (Below w.heap.size w w')) ?_ ?_
              rotate_left
              · intro hJ3_4_7_11
                refine join_ (σ := Value) 3 #[true, true, true, true, true, true, true, true, true, true, true, false, false, false] (fun s_ => [(13, s_), (14, .string (strOfNums y185)), (17, .string t188), (18, .string ((strOfNums y185) ++ t188))]) (fun s_ w' => (w'.cell? ⟨gb183, 0, none⟩ = some (.int .i64 a0_0) ∧ w'.cell? ⟨gb183, 1, none⟩ = some (.string a0_1) ∧ w'.cell? ⟨gb183, 2, none⟩ = some (.int .i64 a0_2) ∧ w'.cell? ⟨gb183, 3, none⟩ = some (.string a0_3) ∧ w'.cell? ⟨gb183, 4, none⟩ = some (.string a0_4) ∧ w'.cell? ⟨gb183, 5, none⟩ = some (.int .i64 a0_5) ∧ w'.cell? ⟨gb183, 6, none⟩ = some (.int .i64 a0_6) ∧ w'.cell? ⟨gb183, 7, none⟩ = some (.int .i64 a0_7) ∧ w'.cell? ⟨gb183, 8, none⟩ = some (.int .i64 a0_8) ∧ w'.cell? ⟨gb183, 9, none⟩ = some (.int .i64 a0_9) ∧ w'.cell? ⟨gb183, 10, none⟩ = some (.slice A0_10 l0_10.length c0_10) ∧ w'.cell? ⟨gb183, 11, none⟩ = some (.int .i64 a0_11) ∧ w'.cell? ⟨gb183, 12, none⟩ = some (.int .i64 a0_12)) ∧ (Kd.R (Kd.int .u8) 5 w' w.heap.size (fun _ => True) s_ y185) ∧ (w'.heap[gb183]? = some (.cells #[.int .i64 a0_0, .string a0_1, .int .i64 a0_2, .string a0_3, .string a0_4, .int .i64 a0_5, .int .i64 a0_6, .int .i64 a0_7, .int .i64 a0_8, .int .i64 a0_9, .slice A0_10 l0_10.length c0_10, .int .i64 a0_11, .int .i64 a0_12] 40 (0, 0))) ∧ (Below w.heap.size w w')) ?_ ?_
                rotate_left
                · intro hJ3_4_7
                  refine join_ (σ := Value) 4 #[true, true, true, true, false, true, true, true, false, true, true, true, false, false] (fun s_ => [(13, s_), (17, .string t188), (21, .string t189)]) (fun s_ w' => (w'.cell? ⟨gb183, 0, none⟩ = some (.int .i64 a0_0) ∧ w'.cell? ⟨gb183, 1, none⟩ = some (.string a0_1) ∧ w'.cell? ⟨gb183, 2, none⟩ = some (.int .i64 a0_2) ∧ w'.cell? ⟨gb183, 3, none⟩ = some (.string a0_3) ∧ w'.cell? ⟨gb183, 4, none⟩ = some (.string a0_4) ∧ w'.cell? ⟨gb183, 5, none⟩ = some (.int .i64 a0_5) ∧ w'.cell? ⟨gb183, 6, none⟩ = some (.int .i64 a0_6) ∧ w'.cell? ⟨gb183, 7, none⟩ = some (.int .i64 a0_7) ∧ w'.cell? ⟨gb183, 8, none⟩ = some (.int .i64 a0_8) ∧ w'.cell? ⟨gb183, 9, none⟩ = some (.int .i64 a0_9) ∧ w'.cell? ⟨gb183, 10, none⟩ = some (.slice A0_10 l0_10.length c0_10) ∧ w'.cell? ⟨gb183, 11, none⟩ = some (.int .i64 a0_11) ∧ w'.cell? ⟨gb183, 12, none⟩ = some (.int .i64 a0_12)) ∧ (Kd.R (Kd.int .u8) 5 w' w.heap.size (fun _ => True) s_ y185) ∧ (w'.heap[gb183]? = some (.cells #[.int .i64 a0_0, .string a0_1, .int .i64 a0_2, .string a0_3, .string a0_4, .int .i64 a0_5, .int .i64 a0_6, .int .i64 a0_7, .int .i64 a0_8, .int .i64 a0_9, .slice A0_10 l0_10.length c0_10, .int .i64 a0_11, .int .i64 a0_12] 40 (0, 0))) ∧ (Below w.heap.size w w')) ?_ ?_
                  rotate_left
                  · intro hJ3_7_11
                    refine join_ (σ := Value) 5 #[true, true, true, true, true, true, true, false, false, true, true, false, false, false] (fun s_ => [(13, s_), (14, .string (strOfNums y185))]) (fun s_ w' => (w'.cell? ⟨gb183, 0, none⟩ = some (.int .i64 a0_0) ∧ w'.cell? ⟨gb183, 1, none⟩ = some (.string a0_1) ∧ w'.cell? ⟨gb183, 2, none⟩ = some (.int .i64 a0_2) ∧ w'.cell? ⟨gb183, 3, none⟩ = some (.string a0_3) ∧ w'.cell? ⟨gb183, 4, none⟩ = some (.string a0_4) ∧ w'.cell? ⟨gb183, 5, none⟩ = some (.int .i64 a0_5) ∧ w'.cell? ⟨gb183, 6, none⟩ = some (.int .i64 a0_6) ∧ w'.cell? ⟨gb183, 7, none⟩ = some (.int .i64 a0_7) ∧ w'.cell? ⟨gb183, 8, none⟩ = some (.int .i64 a0_8) ∧ w'.cell? ⟨gb183, 9, none⟩ = some (.int .i64 a0_9) ∧ w'.cell? ⟨gb183, 10, none⟩ = some (.slice A0_10 l0_10.length c0_10) ∧ w'.cell? ⟨gb183, 11, none⟩ = some (.int .i64 a0_11) ∧ w'.cell? ⟨gb183, 12, none⟩ = some (.int .i64 a0_12)) ∧ (Kd.R (Kd.int .u8) 5 w' w.heap.size (fun _ => True) s_ y185) ∧ (w'.heap[gb183]? = some (.cells #[.int .i64 a0_0, .string a0_1, .int .i64 a0_2, .string a0_3, .string a0_4, .int .i64 a0_5, .int .i64 a0_6, .int .i64 a0_7, .int .i64 a0_8, .int .i64 a0_9, .slice A0_10 l0_10.length c0_10, .int .i64 a0_11, .int .i64 a0_12] 40 (0, 0))) ∧ (Below w.heap.size w w')) ?_ ?_
                    rotate_left
                    · intro hJ3_4
                      refine join_ (σ := Value) 5 #[true, true, true, true, false, true, true, true, false, true, true, false, false, false] (fun s_ => [(13, s_), (17, .string t188)]) (fun s_ w' => (w'.cell? ⟨gb183, 0, none⟩ = some (.int .i64 a0_0) ∧ w'.cell? ⟨gb183, 1, none⟩ = some (.string a0_1) ∧ w'.cell? ⟨gb183, 2, none⟩ = some (.int .i64 a0_2) ∧ w'.cell? ⟨gb183, 3, none⟩ = some (.string a0_3) ∧ w'.cell? ⟨gb183, 4, none⟩ = some (.string a0_4) ∧ w'.cell? ⟨gb183, 5, none⟩ = some (.int .i64 a0_5) ∧ w'.cell? ⟨gb183, 6, none⟩ = some (.int .i64 a0_6) ∧ w'.cell? ⟨gb183, 7, none⟩ = some (.int .i64 a0_7) ∧ w'.cell? ⟨gb183, 8, none⟩ = some (.int .i64 a0_8) ∧ w'.cell? ⟨gb183, 9, none⟩ = some (.int .i64 a0_9) ∧ w'.cell? ⟨gb183, 10, none⟩ = some (.slice A0_10 l0_10.length c0_10) ∧ w'.cell? ⟨gb183, 11, none⟩ = some (.int .i64 a0_11) ∧ w'.cell? ⟨gb183, 12, none⟩ = some (.int .i64 a0_12)) ∧ (Kd.R (Kd.int .u8) 5 w' w.heap.size (fun _ => True) s_ y185) ∧ (w'.heap[gb183]? = some (.cells #[.int .i64 a0_0, .string a0_1, .int .i64 a0_2, .string a0_3, .string a0_4, .int .i64 a0_5, .int .i64 a0_6, .int .i64 a0_7, .int .i64 a0_8, .int .i64 a0_9, .slice A0_10 l0_10.length c0_10, .int .i64 a0_11, .int .i64 a0_12] 40 (0, 0))) ∧ (Below w.heap.size w w')) ?_ ?_
                      rotate_left
                      · intro hJ3_7
                        refine join_ (σ := Unit) 5 #[true, true, true, false, false, true, true, true, false, true, true, true, false, false] (fun s_ => [(17, .string t188), (21, .string t189)]) (fun s_ w' => (w'.cell? ⟨gb183, 0, none⟩ = some (.int .i64 a0_0) ∧ w'.cell? ⟨gb183, 1, none⟩ = some (.string a0_1) ∧ w'.cell? ⟨gb183, 2, none⟩ = some (.int .i64 a0_2) ∧ w'.cell? ⟨gb183, 3, none⟩ = some (.string a0_3) ∧ w'.cell? ⟨gb183, 4, none⟩ = some (.string a0_4) ∧ w'.cell? ⟨gb183, 5, none⟩ = some (.int .i64 a0_5) ∧ w'.cell? ⟨gb183, 6, none⟩ = some (.int .i64 a0_6) ∧ w'.cell? ⟨gb183, 7, none⟩ = some (.int .i64 a0_7) ∧ w'.cell? ⟨gb183, 8, none⟩ = some (.int .i64 a0_8) ∧ w'.cell? ⟨gb183, 9, none⟩ = some (.int .i64 a0_9) ∧ w'.cell? ⟨gb183, 10, none⟩ = some (.slice A0_10 l0_10.length c0_10) ∧ w'.cell? ⟨gb183, 11, none⟩ = some (.int .i64 a0_11) ∧ w'.cell? ⟨gb183, 12, none⟩ = some (.int .i64 a0_12)) ∧ (w'.heap[gb183]? = some (.cells #[.int .i64 a0_0, .string a0_1, .int .i64 a0_2, .string a0_3, .string a0_4, .int .i64 a0_5, .int .i64 a0_6, .int .i64 a0_7, .int .i64 a0_8, .int .i64 a0_9, .slice A0_10 l0_10.length c0_10, .int .i64 a0_11, .int .i64 a0_12] 40 (0, 0))) ∧ (Below w.heap.size w w')) ?_ ?_
                        rotate_left
                        · intro hJ7_11
                          refine join_ (σ := Value) 6 #[true, true, true, true, false, true, true, false, false, true, true, false, false, false] (fun s_ => [(13, s_)]) (fun s_ w' => (w'.cell? ⟨gb183, 0, none⟩ = some (.int .i64 a0_0) ∧ w'.cell? ⟨gb183, 1, none⟩ = some (.string a0_1) ∧ w'.cell? ⟨gb183, 2, none⟩ = some (.int .i64 a0_2) ∧ w'.cell? ⟨gb183, 3, none⟩ = some (.string a0_3) ∧ w'.cell? ⟨gb183, 4, none⟩ = some (.string a0_4) ∧ w'.cell? ⟨gb183, 5, none⟩ = some (.int .i64 a0_5) ∧ w'.cell? ⟨gb183, 6, none⟩ = some (.int .i64 a0_6) ∧ w'.cell? ⟨gb183, 7, none⟩ = some (.int .i64 a0_7) ∧ w'.cell? ⟨gb183, 8, none⟩ = some (.int .i64 a0_8) ∧ w'.cell? ⟨gb183, 9, none⟩ = some (.int .i64 a0_9) ∧ w'.cell? ⟨gb183, 10, none⟩ = some (.slice A0_10 l0_10.length c0_10) ∧ w'.cell? ⟨gb183, 11, none⟩ = some (.int .i64 a0_11) ∧ w'.cell? ⟨gb183, 12, none⟩ = some (.int .i64 a0_12)) ∧ (Kd.R (Kd.int .u8) 5 w' w.heap.size (fun _ => True) s_ y185) ∧ (w'.heap[gb183]? = some (.cells #[.int .i64 a0_0, .string a0_1, .int .i64 a0_2, .string a0_3, .string a0_4, .int .i64 a0_5, .int .i64 a0_6, .int .i64 a0_7, .int .i64 a0_8, .int .i64 a0_9, .slice A0_10 l0_10.length c0_10, .int .i64 a0_11, .int .i64 a0_12] 40 (0, 0))) ∧ (Below w.heap.size w w')) ?_ ?_
                          rotate_left
                          · intro hJ3
                            refine join_ (σ := Unit) 6 #[true, true, true, false, false, true, true, true, false, true, true, false, false, false] (fun s_ => [(17, .string t188)]) (fun s_ w' => (w'.cell? ⟨gb183, 0, none⟩ = some (.int .i64 a0_0) ∧ w'.cell? ⟨gb183, 1, none⟩ = some (.string a0_1) ∧ w'.cell? ⟨gb183, 2, none⟩ = some (.int .i64 a0_2) ∧ w'.cell? ⟨gb183, 3, none⟩ = some (.string a0_3) ∧ w'.cell? ⟨gb183, 4, none⟩ = some (.string a0_4) ∧ w'.cell? ⟨gb183, 5, none⟩ = some (.int .i64 a0_5) ∧ w'.cell? ⟨gb183, 6, none⟩ = some (.int .i64 a0_6) ∧ w'.cell? ⟨gb183, 7, none⟩ = some (.int .i64 a0_7) ∧ w'.cell? ⟨gb183, 8, none⟩ = some (.int .i64 a0_8) ∧ w'.cell? ⟨gb183, 9, none⟩ = some (.int .i64 a0_9) ∧ w'.cell? ⟨gb183, 10, none⟩ = some (.slice A0_10 l0_10.length c0_10) ∧ w'.cell? ⟨gb183, 11, none⟩ = some (.int .i64 a0_11) ∧ w'.cell? ⟨gb183, 12, none⟩ = some (.int .i64 a0_12)) ∧ (w'.heap[gb183]? = some (.cells #[.int .i64 a0_0, .string a0_1, .int .i64 a0_2, .string a0_3, .string a0_4, .int .i64 a0_5, .int .i64 a0_6, .int .i64 a0_7, .int .i64 a0_8, .int .i64 a0_9, .slice A0_10 l0_10.length c0_10, .int .i64 a0_11, .int .i64 a0_12] 40 (0, 0))) ∧ (Below w.heap.size w w')) ?_ ?_
                            rotate_left
                            · intro hJ7
                              refine two_ (i := 3) (j := 7) (Ni := some 13) (Nj := some 17) #[true, true, true, true, false, true, true, false, false, true, true, false, false, false] #[true, true, true, false, false, true, true, true, false, true, true, false, false, false] rfl rfl rfl rfl (two_of HT_.out (by kernel_rfl)) (by decide) (by decide) (fun K hK => ?_) (fun K hK => ?_)
                              · skip
                                refine Kd.R_lit_step (Kd.int .u8) _ 5 ?hg (N := 13) ?hd (xs := ([(a0_0) % 256] : List Int)) (inner := [.int .u8 ((a0_0) % 256)]) (ok := fun _ => True) (okp := fun _ => True) ?hr ?hp (fun _ hk => hk) trivial (Below.refl _ _) (Nat.le_refl _) (by simp) ?_; (case hd => rfl); (case hg => rfl); (case hr => first | (go_simp; done) | (go_simp; rfl)); (case hp => exact (Reps.one (show Kd.M (Kd.int .u8) _ _ _ ((a0_0) % 256) [.int .u8 ((a0_0) % 256)] from rfl) (Reps.none _ _)))
                                intro v186 w62 ho63 hb hg_ hnew_
                                clear hg_ hnew_
                                (first | rw [← Ny185.out] at ho63 | (simp only [Int.reduceToNat] at ho63; rw [← Ny185.out] at ho63))
                                have n0_ := Aside0.mk (Kd.R_lower ho63 (below_size (by repeat (first | (with_reducible first | exact HB.out | apply below_alloc | apply pw_below_drewN | apply below_drew1 | refine below_set ?_ GE183.out) | exact HB.out))))
                                have n1_ := Aside0.mk (blk_below (g := gb183) (o := .cells #[.int .i64 a0_0, .string a0_1, .int .i64 a0_2, .string a0_3, .string a0_4, .int .i64 a0_5, .int .i64 a0_6, .int .i64 a0_7, .int .i64 a0_8, .int .i64 a0_9, .slice A0_10 l0_10.length c0_10, .int .i64 a0_11, .int .i64 a0_12] 40 (0, 0)) (by (with_reducible repeat (first | refine blk_drewN ?_ _ | refine blk_drew ?_ | refine blk_alloc ?_ _)); exact BK183.out) hb)
                                have n2_ := Aside0.mk (below_step (by repeat (first | (with_reducible first | exact HB.out | apply below_alloc | apply pw_below_drewN | apply below_drew1 | refine below_set ?_ GE183.out) | exact HB.out)) hb)
                                clear BK183
                                clear HB
                                have HO187 := n0_
                                have BK183 := n1_
                                have HB := n2_
                                clear n0_ n1_ n2_
                                clear hb ho63
                                refine hK.out _ _ ⟨(blk_cell BK183.out 0).trans rfl, (blk_cell BK183.out 1).trans rfl, (blk_cell BK183.out 2).trans rfl, (blk_cell BK183.out 3).trans rfl, (blk_cell BK183.out 4).trans rfl, (blk_cell BK183.out 5).trans rfl, (blk_cell BK183.out 6).trans rfl, (blk_cell BK183.out 7).trans rfl, (blk_cell BK183.out 8).trans rfl, (blk_cell BK183.out 9).trans rfl, (blk_cell BK183.out 10).trans rfl, (blk_cell BK183.out 11).trans rfl, (blk_cell BK183.out 12).trans rfl⟩ (fun hHeld => ?_)
                                clear hK K
                                refine norm_ (a' := ?_) ?_ ?_
                                rotate_left
                                · show Act.put _ (some 13) _ = _
                                  simp only [Act.put, List.setIfInBounds_toArray, List.set_cons_zero, List.set_cons_succ, i64_w, i32_w]
                                  rfl
                                exact norm_ (by first | (simp only [putAll, Act.put, List.setIfInBounds_toArray, List.set_cons_zero, List.set_cons_succ]; done) | (simp only [putAll, Act.put, List.setIfInBounds_toArray, List.set_cons_zero, List.set_cons_succ]; rfl)) (hJ3 (v186) _ ⟨hHeld, (by (with_reducible repeat (first | apply Kd.R_alloc | apply Kd.R_drewN | apply Kd.R_drew)); exact HO187.out), (by (with_reducible repeat (first | refine blk_drewN ?_ _ | refine blk_drew ?_ | refine blk_alloc ?_ _)); exact BK183.out), (by repeat (first | (with_reducible first | exact HB.out | apply below_alloc | apply pw_below_drewN | apply below_drew1 | refine below_set ?_ GE183.out) | exact HB.out))⟩)
                              · skip
                                refine goes_ Try.func29 (by kernel_rfl) rfl #[.string a0_1] (by rfl) rfl rfl (by (try simp only [List.map_toArray, List.map_cons, List.map_nil]); first | done | rfl | (simp only [List.length_drop, List.length_take]; rfl)) ?_
                                with_reducible refine (hushref16_text.calls k a0_1 t188 _ A4.out).mono ?_
                                rintro e w62 ⟨rfl, hb⟩
                                refine ⟨_, rfl, ?_⟩
                                have n0_ := Aside0.mk (blk_below (g := gb183) (o := .cells #[.int .i64 a0_0, .string a0_1, .int .i64 a0_2, .string a0_3, .string a0_4, .int .i64 a0_5, .int .i64 a0_6, .int .i64 a0_7, .int .i64 a0_8, .int .i64 a0_9, .slice A0_10 l0_10.length c0_10, .int .i64 a0_11, .int .i64 a0_12] 40 (0, 0)) (by (with_reducible repeat (first | refine blk_drewN ?_ _ | refine blk_drew ?_ | refine blk_alloc ?_ _)); exact BK183.out) hb)
                                have n1_ := Aside0.mk (below_step (by repeat (first | (with_reducible first | exact HB.out | apply below_alloc | apply pw_below_drewN | apply below_drew1 | refine below_set ?_ GE183.out) | exact HB.out)) hb)
                                clear BK183
                                clear HB
                                have BK183 := n0_
                                have HB := n1_
                                clear n0_ n1_
                                (try clear hb)
                                (try clear hb2)
                                (try clear hk)
                                (try clear hi)
                                refine hK.out _ _ ⟨(blk_cell BK183.out 0).trans rfl, (blk_cell BK183.out 1).trans rfl, (blk_cell BK183.out 2).trans rfl, (blk_cell BK183.out 3).trans rfl, (blk_cell BK183.out 4).trans rfl, (blk_cell BK183.out 5).trans rfl, (blk_cell BK183.out 6).trans rfl, (blk_cell BK183.out 7).trans rfl, (blk_cell BK183.out 8).trans rfl, (blk_cell BK183.out 9).trans rfl, (blk_cell BK183.out 10).trans rfl, (blk_cell BK183.out 11).trans rfl, (blk_cell BK183.out 12).trans rfl⟩ (fun hHeld => ?_)
                                clear hK K
                                refine norm_ (a' := ?_) ?_ ?_
                                rotate_left
                                · show Act.put _ (some 17) _ = _
                                  simp only [Act.put, List.setIfInBounds_toArray, List.set_cons_zero, List.set_cons_succ, i64_w, i32_w]
                                  rfl
                                exact norm_ (by first | (simp only [putAll, Act.put, List.setIfInBounds_toArray, List.set_cons_zero, List.set_cons_succ]; done) | (simp only [putAll, Act.put, List.setIfInBounds_toArray, List.set_cons_zero, List.set_cons_succ]; rfl)) (hJ7 () _ ⟨hHeld, (by (with_reducible repeat (first | refine blk_drewN ?_ _ | refine blk_drew ?_ | refine blk_alloc ?_ _)); exact BK183.out), (by repeat (first | (with_reducible first | exact HB.out | apply below_alloc | apply pw_below_drewN | apply below_drew1 | refine below_set ?_ GE183.out) | exact HB.out))⟩)
                            · skip
                              rintro _ w63 ⟨hS_, h0_, h1_⟩
                              have n0_ : Aside0 (w63.heap[gb183]? = some (.cells #[.int .i64 a0_0, .string a0_1, .int .i64 a0_2, .string a0_3, .string a0_4, .int .i64 a0_5, .int .i64 a0_6, .int .i64 a0_7, .int .i64 a0_8, .int .i64 a0_9, .slice A0_10 l0_10.length c0_10, .int .i64 a0_11, .int .i64 a0_12] 40 (0, 0))) := ⟨h0_⟩
                              have n1_ : Aside0 (Below w.heap.size w w63) := ⟨h1_⟩
                              clear BK183
                              clear HB
                              clear h0_ h1_
                              have BK183 := n0_
                              have HB := n1_
                              clear n0_ n1_
                              have hHeld : w63.cell? ⟨gb183, 0, none⟩ = some (.int .i64 a0_0) ∧ w63.cell? ⟨gb183, 1, none⟩ = some (.string a0_1) ∧ w63.cell? ⟨gb183, 2, none⟩ = some (.int .i64 a0_2) ∧ w63.cell? ⟨gb183, 3, none⟩ = some (.string a0_3) ∧ w63.cell? ⟨gb183, 4, none⟩ = some (.string a0_4) ∧ w63.cell? ⟨gb183, 5, none⟩ = some (.int .i64 a0_5) ∧ w63.cell? ⟨gb183, 6, none⟩ = some (.int .i64 a0_6) ∧ w63.cell? ⟨gb183, 7, none⟩ = some (.int .i64 a0_7) ∧ w63.cell? ⟨gb183, 8, none⟩ = some (.int .i64 a0_8) ∧ w63.cell? ⟨gb183, 9, none⟩ = some (.int .i64 a0_9) ∧ w63.cell? ⟨gb183, 10, none⟩ = some (.slice A0_10 l0_10.length c0_10) ∧ w63.cell? ⟨gb183, 11, none⟩ = some (.int .i64 a0_11) ∧ w63.cell? ⟨gb183, 12, none⟩ = some (.int .i64 a0_12) := hS_
                              refine norm_ (a' := ?_) ?_ ?_
                              rotate_left
                              · simp only [putAll, Act.put, List.setIfInBounds_toArray, List.set_cons_zero, List.set_cons_succ]
                                rfl
                              refine two_ (i := 3) (j := 11) (Ni := some 13) (Nj := some 21) #[true, true, true, true, false, true, true, true, false, true, true, false, false, false] #[true, true, true, false, false, true, true, true, false, true, true, true, false, false] rfl rfl rfl rfl (two_of HT_.out (by kernel_rfl)) (by decide) (by decide) (fun K hK => ?_) (fun K hK => ?_)
                              · skip
                                refine Kd.R_lit_step (Kd.int .u8) _ 5 ?hg (N := 13) ?hd (xs := ([(a0_0) % 256] : List Int)) (inner := [.int .u8 ((a0_0) % 256)]) (ok := fun _ => True) (okp := fun _ => True) ?hr ?hp (fun _ hk => hk) trivial (Below.refl _ _) (Nat.le_refl _) (by simp) ?_; (case hd => rfl); (case hg => rfl); (case hr => first | (go_simp; done) | (go_simp; rfl)); (case hp => exact (Reps.one (show Kd.M (Kd.int .u8) _ _ _ ((a0_0) % 256) [.int .u8 ((a0_0) % 256)] from rfl) (Reps.none _ _)))
                                intro v186 w64 ho65 hb hg_ hnew_
                                clear hg_ hnew_
                                (first | rw [← Ny185.out] at ho65 | (simp only [Int.reduceToNat] at ho65; rw [← Ny185.out] at ho65))
                                have n0_ := Aside0.mk (Kd.R_lower ho65 (below_size (by repeat (first | (with_reducible first | exact HB.out | apply below_alloc | apply pw_below_drewN | apply below_drew1 | refine below_set ?_ GE183.out) | exact HB.out))))
                                have n1_ := Aside0.mk (blk_below (g := gb183) (o := .cells #[.int .i64 a0_0, .string a0_1, .int .i64 a0_2, .string a0_3, .string a0_4, .int .i64 a0_5, .int .i64 a0_6, .int .i64 a0_7, .int .i64 a0_8, .int .i64 a0_9, .slice A0_10 l0_10.length c0_10, .int .i64 a0_11, .int .i64 a0_12] 40 (0, 0)) (by (with_reducible repeat (first | refine blk_drewN ?_ _ | refine blk_drew ?_ | refine blk_alloc ?_ _)); exact BK183.out) hb)
                                have n2_ := Aside0.mk (below_step (by repeat (first | (with_reducible first | exact HB.out | apply below_alloc | apply pw_below_drewN | apply below_drew1 | refine below_set ?_ GE183.out) | exact HB.out)) hb)
                                clear BK183
                                clear HB
                                have HO187 := n0_
                                have BK183 := n1_
                                have HB := n2_
                                clear n0_ n1_ n2_
                                clear hb ho65
                                refine hK.out _ _ ⟨(blk_cell BK183.out 0).trans rfl, (blk_cell BK183.out 1).trans rfl, (blk_cell BK183.out 2).trans rfl, (blk_cell BK183.out 3).trans rfl, (blk_cell BK183.out 4).trans rfl, (blk_cell BK183.out 5).trans rfl, (blk_cell BK183.out 6).trans rfl, (blk_cell BK183.out 7).trans rfl, (blk_cell BK183.out 8).trans rfl, (blk_cell BK183.out 9).trans rfl, (blk_cell BK183.out 10).trans rfl, (blk_cell BK183.out 11).trans rfl, (blk_cell BK183.out 12).trans rfl⟩ (fun hHeld => ?_)
                                clear hK K
                                refine norm_ (a' := ?_) ?_ ?_
                                rotate_left
                                · show Act.put _ (some 13) _ = _
                                  simp only [Act.put, List.setIfInBounds_toArray, List.set_cons_zero, List.set_cons_succ, i64_w, i32_w]
                                  rfl
                                exact norm_ (by first | (simp only [putAll, Act.put, List.setIfInBounds_toArray, List.set_cons_zero, List.set_cons_succ]; done) | (simp only [putAll, Act.put, List.setIfInBounds_toArray, List.set_cons_zero, List.set_cons_succ]; rfl)) (hJ3_7 (v186) _ ⟨hHeld, (by (with_reducible repeat (first | apply Kd.R_alloc | apply Kd.R_drewN | apply Kd.R_drew)); exact HO187.out), (by (with_reducible repeat (first | refine blk_drewN ?_ _ | refine blk_drew ?_ | refine blk_alloc ?_ _)); exact BK183.out), (by repeat (first | (with_reducible first | exact HB.out | apply below_alloc | apply pw_below_drewN | apply below_drew1 | refine below_set ?_ GE183.out) | exact HB.out))⟩)
                              · skip
                                refine goes_ Try.func30 (by kernel_rfl) rfl #[.int .i64 a0_2] (by rfl) rfl rfl (by (try simp only [List.map_toArray, List.map_cons, List.map_nil]); first | done | rfl | (simp only [List.length_drop, List.length_take]; rfl)) ?_
                                with_reducible refine (hushref16_Number.calls k a0_2 t189 _ A6.out).mono ?_
                                rintro e w64 ⟨rfl, hb⟩
                                refine ⟨_, rfl, ?_⟩
                                have n0_ := Aside0.mk (blk_below (g := gb183) (o := .cells #[.int .i64 a0_0, .string a0_1, .int .i64 a0_2, .string a0_3, .string a0_4, .int .i64 a0_5, .int .i64 a0_6, .int .i64 a0_7, .int .i64 a0_8, .int .i64 a0_9, .slice A0_10 l0_10.length c0_10, .int .i64 a0_11, .int .i64 a0_12] 40 (0, 0)) (by (with_reducible repeat (first | refine blk_drewN ?_ _ | refine blk_drew ?_ | refine blk_alloc ?_ _)); exact BK183.out) hb)
                                have n1_ := Aside0.mk (below_step (by repeat (first | (with_reducible first | exact HB.out | apply below_alloc | apply pw_below_drewN | apply below_drew1 | refine below_set ?_ GE183.out) | exact HB.out)) hb)
                                clear BK183
                                clear HB
                                have BK183 := n0_
                                have HB := n1_
                                clear n0_ n1_
                                (try clear hb)
                                (try clear hb2)
                                (try clear hk)
                                (try clear hi)
                                refine hK.out _ _ ⟨(blk_cell BK183.out 0).trans rfl, (blk_cell BK183.out 1).trans rfl, (blk_cell BK183.out 2).trans rfl, (blk_cell BK183.out 3).trans rfl, (blk_cell BK183.out 4).trans rfl, (blk_cell BK183.out 5).trans rfl, (blk_cell BK183.out 6).trans rfl, (blk_cell BK183.out 7).trans rfl, (blk_cell BK183.out 8).trans rfl, (blk_cell BK183.out 9).trans rfl, (blk_cell BK183.out 10).trans rfl, (blk_cell BK183.out 11).trans rfl, (blk_cell BK183.out 12).trans rfl⟩ (fun hHeld => ?_)
                                clear hK K
                                refine norm_ (a' := ?_) ?_ ?_
                                rotate_left
                                · show Act.put _ (some 21) _ = _
                                  simp only [Act.put, List.setIfInBounds_toArray, List.set_cons_zero, List.set_cons_succ, i64_w, i32_w]
                                  rfl
                                exact norm_ (by first | (simp only [putAll, Act.put, List.setIfInBounds_toArray, List.set_cons_zero, List.set_cons_succ]; done) | (simp only [putAll, Act.put, List.setIfInBounds_toArray, List.set_cons_zero, List.set_cons_succ]; rfl)) (hJ7_11 () _ ⟨hHeld, (by (with_reducible repeat (first | refine blk_drewN ?_ _ | refine blk_drew ?_ | refine blk_alloc ?_ _)); exact BK183.out), (by repeat (first | (with_reducible first | exact HB.out | apply below_alloc | apply pw_below_drewN | apply below_drew1 | refine below_set ?_ GE183.out) | exact HB.out))⟩)
                          · skip
                            rintro v186 w64 ⟨hS_, h0_, h1_, h2_⟩
                            have n0_ : Aside0 (Kd.R (Kd.int .u8) 5 w64 w.heap.size (fun _ => True) v186 y185) := ⟨h0_⟩
                            have n1_ : Aside0 (w64.heap[gb183]? = some (.cells #[.int .i64 a0_0, .string a0_1, .int .i64 a0_2, .string a0_3, .string a0_4, .int .i64 a0_5, .int .i64 a0_6, .int .i64 a0_7, .int .i64 a0_8, .int .i64 a0_9, .slice A0_10 l0_10.length c0_10, .int .i64 a0_11, .int .i64 a0_12] 40 (0, 0))) := ⟨h1_⟩
                            have n2_ : Aside0 (Below w.heap.size w w64) := ⟨h2_⟩
                            clear BK183
                            clear HB
                            clear h0_ h1_ h2_
                            have HO187 := n0_
                            have BK183 := n1_
                            have HB := n2_
                            clear n0_ n1_ n2_
                            have hHeld : w64.cell? ⟨gb183, 0, none⟩ = some (.int .i64 a0_0) ∧ w64.cell? ⟨gb183, 1, none⟩ = some (.string a0_1) ∧ w64.cell? ⟨gb183, 2, none⟩ = some (.int .i64 a0_2) ∧ w64.cell? ⟨gb183, 3, none⟩ = some (.string a0_3) ∧ w64.cell? ⟨gb183, 4, none⟩ = some (.string a0_4) ∧ w64.cell? ⟨gb183, 5, none⟩ = some (.int .i64 a0_5) ∧ w64.cell? ⟨gb183, 6, none⟩ = some (.int .i64 a0_6) ∧ w64.cell? ⟨gb183, 7, none⟩ = some (.int .i64 a0_7) ∧ w64.cell? ⟨gb183, 8, none⟩ = some (.int .i64 a0_8) ∧ w64.cell? ⟨gb183, 9, none⟩ = some (.int .i64 a0_9) ∧ w64.cell? ⟨gb183, 10, none⟩ = some (.slice A0_10 l0_10.length c0_10) ∧ w64.cell? ⟨gb183, 11, none⟩ = some (.int .i64 a0_11) ∧ w64.cell? ⟨gb183, 12, none⟩ = some (.int .i64 a0_12) := hS_
                            refine norm_ (a' := ?_) ?_ ?_
                            rotate_left
                            · simp only [putAll, Act.put, List.setIfInBounds_toArray, List.set_cons_zero, List.set_cons_succ]
                              rfl
                            refine two_ (i := 4) (j := 7) (Ni := some 14) (Nj := some 17) #[true, true, true, true, true, true, true, false, false, true, true, false, false, false] #[true, true, true, true, false, true, true, true, false, true, true, false, false, false] rfl rfl rfl rfl (two_of HT_.out (by kernel_rfl)) (by decide) (by decide) (fun K hK => ?_) (fun K hK => ?_)
                            · skip
                              have hcv65 := own_string (P := Try.prog) Try.underlying51 Try.underlying5 Try.underlying9 (Kd.own_of_R HO187.out)
                              refine value_ (w1 := ?_) (v := ?_) (by rfl) rfl ?_ ?_
                              rotate_left 2
                              · go_simp
                                constructor
                                · rfl
                                · rfl
                              clear hcv65
                              refine hK.out _ _ ⟨(blk_cell BK183.out 0).trans rfl, (blk_cell BK183.out 1).trans rfl, (blk_cell BK183.out 2).trans rfl, (blk_cell BK183.out 3).trans rfl, (blk_cell BK183.out 4).trans rfl, (blk_cell BK183.out 5).trans rfl, (blk_cell BK183.out 6).trans rfl, (blk_cell BK183.out 7).trans rfl, (blk_cell BK183.out 8).trans rfl, (blk_cell BK183.out 9).trans rfl, (blk_cell BK183.out 10).trans rfl, (blk_cell BK183.out 11).trans rfl, (blk_cell BK183.out 12).trans rfl⟩ (fun hHeld => ?_)
                              clear hK K
                              refine norm_ (a' := ?_) ?_ ?_
                              rotate_left
                              · show Act.put _ (some 14) _ = _
                                simp only [Act.put, List.setIfInBounds_toArray, List.set_cons_zero, List.set_cons_succ, i64_w, i32_w]
                                rfl
                              exact norm_ (by first | (simp only [putAll, Act.put, List.setIfInBounds_toArray, List.set_cons_zero, List.set_cons_succ]; done) | (simp only [putAll, Act.put, List.setIfInBounds_toArray, List.set_cons_zero, List.set_cons_succ]; rfl)) (hJ3_4 (v186) _ ⟨hHeld, (by (with_reducible repeat (first | apply Kd.R_alloc | apply Kd.R_drewN | apply Kd.R_drew)); exact HO187.out), (by (with_reducible repeat (first | refine blk_drewN ?_ _ | refine blk_drew ?_ | refine blk_alloc ?_ _)); exact BK183.out), (by repeat (first | (with_reducible first | exact HB.out | apply below_alloc | apply pw_below_drewN | apply below_drew1 | refine below_set ?_ GE183.out) | exact HB.out))⟩)
                            · skip
                              refine goes_ Try.func29 (by kernel_rfl) rfl #[.string a0_1] (by rfl) rfl rfl (by (try simp only [List.map_toArray, List.map_cons, List.map_nil]); first | done | rfl | (simp only [List.length_drop, List.length_take]; rfl)) ?_
                              with_reducible refine (hushref16_text.calls k a0_1 t188 _ A4.out).mono ?_
                              rintro e w65 ⟨rfl, hb⟩
                              refine ⟨_, rfl, ?_⟩
                              have n0_ := Aside0.mk (Kd.R_below (by (with_reducible repeat (first | apply Kd.R_alloc | apply Kd.R_drewN | apply Kd.R_drew)); exact HO187.out) hb)
                              have n1_ := Aside0.mk (blk_below (g := gb183) (o := .cells #[.int .i64 a0_0, .string a0_1, .int .i64 a0_2, .string a0_3, .string a0_4, .int .i64 a0_5, .int .i64 a0_6, .int .i64 a0_7, .int .i64 a0_8, .int .i64 a0_9, .slice A0_10 l0_10.length c0_10, .int .i64 a0_11, .int .i64 a0_12] 40 (0, 0)) (by (with_reducible repeat (first | refine blk_drewN ?_ _ | refine blk_drew ?_ | refine blk_alloc ?_ _)); exact BK183.out) hb)
                              have n2_ := Aside0.mk (below_step (by repeat (first | (with_reducible first | exact HB.out | apply below_alloc | apply pw_below_drewN | apply below_drew1 | refine below_set ?_ GE183.out) | exact HB.out)) hb)
                              clear HO187
                              clear BK183
                              clear HB
                              have HO187 := n0_
                              have BK183 := n1_
                              have HB := n2_
                              clear n0_ n1_ n2_
                              (try clear hb)
                              (try clear hb2)
                              (try clear hk)
                              (try clear hi)
                              refine hK.out _ _ ⟨(blk_cell BK183.out 0).trans rfl, (blk_cell BK183.out 1).trans rfl, (blk_cell BK183.out 2).trans rfl, (blk_cell BK183.out 3).trans rfl, (blk_cell BK183.out 4).trans rfl, (blk_cell BK183.out 5).trans rfl, (blk_cell BK183.out 6).trans rfl, (blk_cell BK183.out 7).trans rfl, (blk_cell BK183.out 8).trans rfl, (blk_cell BK183.out 9).trans rfl, (blk_cell BK183.out 10).trans rfl, (blk_cell BK183.out 11).trans rfl, (blk_cell BK183.out 12).trans rfl⟩ (fun hHeld => ?_)
                              clear hK K
                              refine norm_ (a' := ?_) ?_ ?_
                              rotate_left
                              · show Act.put _ (some 17) _ = _
                                simp only [Act.put, List.setIfInBounds_toArray, List.set_cons_zero, List.set_cons_succ, i64_w, i32_w]
                                rfl
                              exact norm_ (by first | (simp only [putAll, Act.put, List.setIfInBounds_toArray, List.set_cons_zero, List.set_cons_succ]; done) | (simp only [putAll, Act.put, List.setIfInBounds_toArray, List.set_cons_zero, List.set_cons_succ]; rfl)) (hJ3_7 (v186) _ ⟨hHeld, (by (with_reducible repeat (first | apply Kd.R_alloc | apply Kd.R_drewN | apply Kd.R_drew)); exact HO187.out), (by (with_reducible repeat (first | refine blk_drewN ?_ _ | refine blk_drew ?_ | refine blk_alloc ?_ _)); exact BK183.out), (by repeat (first | (with_reducible first | exact HB.out | apply below_alloc | apply pw_below_drewN | apply below_drew1 | refine below_set ?_ GE183.out) | exact HB.out))⟩)
                        · skip
                          rintro _ w64 ⟨hS_, h0_, h1_⟩
                          have n0_ : Aside0 (w64.heap[gb183]? = some (.cells #[.int .i64 a0_0, .string a0_1, .int .i64 a0_2, .string a0_3, .string a0_4, .int .i64 a0_5, .int .i64 a0_6, .int .i64 a0_7, .int .i64 a0_8, .int .i64 a0_9, .slice A0_10 l0_10.length c0_10, .int .i64 a0_11, .int .i64 a0_12] 40 (0, 0))) := ⟨h0_⟩
                          have n1_ : Aside0 (Below w.heap.size w w64) := ⟨h1_⟩
                          clear BK183
                          clear HB
                          clear h0_ h1_
                          have BK183 := n0_
                          have HB := n1_
                          clear n0_ n1_
                          have hHeld : w64.cell? ⟨gb183, 0, none⟩ = some (.int .i64 a0_0) ∧ w64.cell? ⟨gb183, 1, none⟩ = some (.string a0_1) ∧ w64.cell? ⟨gb183, 2, none⟩ = some (.int .i64 a0_2) ∧ w64.cell? ⟨gb183, 3, none⟩ = some (.string a0_3) ∧ w64.cell? ⟨gb183, 4, none⟩ = some (.string a0_4) ∧ w64.cell? ⟨gb183, 5, none⟩ = some (.int .i64 a0_5) ∧ w64.cell? ⟨gb183, 6, none⟩ = some (.int .i64 a0_6) ∧ w64.cell? ⟨gb183, 7, none⟩ = some (.int .i64 a0_7) ∧ w64.cell? ⟨gb183, 8, none⟩ = some (.int .i64 a0_8) ∧ w64.cell? ⟨gb183, 9, none⟩ = some (.int .i64 a0_9) ∧ w64.cell? ⟨gb183, 10, none⟩ = some (.slice A0_10 l0_10.length c0_10) ∧ w64.cell? ⟨gb183, 11, none⟩ = some (.int .i64 a0_11) ∧ w64.cell? ⟨gb183, 12, none⟩ = some (.int .i64 a0_12) := hS_
                          refine norm_ (a' := ?_) ?_ ?_
                          rotate_left
                          · simp only [putAll, Act.put, List.setIfInBounds_toArray, List.set_cons_zero, List.set_cons_succ]
                            rfl
                          refine one_ (i := 3) (N := some 13) #[true, true, true, true, false, true, true, true, false, true, true, true, false, false] rfl rfl (one_of HT_.out (by kernel_rfl)) (by decide) (fun K hK => ?_)
                          refine Kd.R_lit_step (Kd.int .u8) _ 5 ?hg (N := 13) ?hd (xs := ([(a0_0) % 256] : List Int)) (inner := [.int .u8 ((a0_0) % 256)]) (ok := fun _ => True) (okp := fun _ => True) ?hr ?hp (fun _ hk => hk) trivial (Below.refl _ _) (Nat.le_refl _) (by simp) ?_; (case hd => rfl); (case hg => rfl); (case hr => first | (go_simp; done) | (go_simp; rfl)); (case hp => exact (Reps.one (show Kd.M (Kd.int .u8) _ _ _ ((a0_0) % 256) [.int .u8 ((a0_0) % 256)] from rfl) (Reps.none _ _)))
                          intro v186 w65 ho66 hb hg_ hnew_
                          clear hg_ hnew_
                          (first | rw [← Ny185.out] at ho66 | (simp only [Int.reduceToNat] at ho66; rw [← Ny185.out] at ho66))
                          have n0_ := Aside0.mk (Kd.R_lower ho66 (below_size (by repeat (first | (with_reducible first | exact HB.out | apply below_alloc | apply pw_below_drewN | apply below_drew1 | refine below_set ?_ GE183.out) | exact HB.out))))
                          have n1_ := Aside0.mk (blk_below (g := gb183) (o := .cells #[.int .i64 a0_0, .string a0_1, .int .i64 a0_2, .string a0_3, .string a0_4, .int .i64 a0_5, .int .i64 a0_6, .int .i64 a0_7, .int .i64 a0_8, .int .i64 a0_9, .slice A0_10 l0_10.length c0_10, .int .i64 a0_11, .int .i64 a0_12] 40 (0, 0)) (by (with_reducible repeat (first | refine blk_drewN ?_ _ | refine blk_drew ?_ | refine blk_alloc ?_ _)); exact BK183.out) hb)
                          have n2_ := Aside0.mk (below_step (by repeat (first | (with_reducible first | exact HB.out | apply below_alloc | apply pw_below_drewN | apply below_drew1 | refine below_set ?_ GE183.out) | exact HB.out)) hb)
                          clear BK183
                          clear HB
                          have HO187 := n0_
                          have BK183 := n1_
                          have HB := n2_
                          clear n0_ n1_ n2_
                          clear hb ho66
                          refine hK.out _ _ ⟨(blk_cell BK183.out 0).trans rfl, (blk_cell BK183.out 1).trans rfl, (blk_cell BK183.out 2).trans rfl, (blk_cell BK183.out 3).trans rfl, (blk_cell BK183.out 4).trans rfl, (blk_cell BK183.out 5).trans rfl, (blk_cell BK183.out 6).trans rfl, (blk_cell BK183.out 7).trans rfl, (blk_cell BK183.out 8).trans rfl, (blk_cell BK183.out 9).trans rfl, (blk_cell BK183.out 10).trans rfl, (blk_cell BK183.out 11).trans rfl, (blk_cell BK183.out 12).trans rfl⟩ (fun hHeld => ?_)
                          clear hK K
                          refine norm_ (a' := ?_) ?_ ?_
                          rotate_left
                          · show Act.put _ (some 13) _ = _
                            simp only [Act.put, List.setIfInBounds_toArray, List.set_cons_zero, List.set_cons_succ, i64_w, i32_w]
                            rfl
                          exact norm_ (by first | (simp only [putAll, Act.put, List.setIfInBounds_toArray, List.set_cons_zero, List.set_cons_succ]; done) | (simp only [putAll, Act.put, List.setIfInBounds_toArray, List.set_cons_zero, List.set_cons_succ]; rfl)) (hJ3_7_11 (v186) _ ⟨hHeld, (by (with_reducible repeat (first | apply Kd.R_alloc | apply Kd.R_drewN | apply Kd.R_drew)); exact HO187.out), (by (with_reducible repeat (first | refine blk_drewN ?_ _ | refine blk_drew ?_ | refine blk_alloc ?_ _)); exact BK183.out), (by repeat (first | (with_reducible first | exact HB.out | apply below_alloc | apply pw_below_drewN | apply below_drew1 | refine below_set ?_ GE183.out) | exact HB.out))⟩)
                      · skip
                        rintro v186 w65 ⟨hS_, h0_, h1_, h2_⟩
                        have n0_ : Aside0 (Kd.R (Kd.int .u8) 5 w65 w.heap.size (fun _ => True) v186 y185) := ⟨h0_⟩
                        have n1_ : Aside0 (w65.heap[gb183]? = some (.cells #[.int .i64 a0_0, .string a0_1, .int .i64 a0_2, .string a0_3, .string a0_4, .int .i64 a0_5, .int .i64 a0_6, .int .i64 a0_7, .int .i64 a0_8, .int .i64 a0_9, .slice A0_10 l0_10.length c0_10, .int .i64 a0_11, .int .i64 a0_12] 40 (0, 0))) := ⟨h1_⟩
                        have n2_ : Aside0 (Below w.heap.size w w65) := ⟨h2_⟩
                        clear BK183
                        clear HB
                        clear h0_ h1_ h2_
                        have HO187 := n0_
                        have BK183 := n1_
                        have HB := n2_
                        clear n0_ n1_ n2_
                        have hHeld : w65.cell? ⟨gb183, 0, none⟩ = some (.int .i64 a0_0) ∧ w65.cell? ⟨gb183, 1, none⟩ = some (.string a0_1) ∧ w65.cell? ⟨gb183, 2, none⟩ = some (.int .i64 a0_2) ∧ w65.cell? ⟨gb183, 3, none⟩ = some (.string a0_3) ∧ w65.cell? ⟨gb183, 4, none⟩ = some (.string a0_4) ∧ w65.cell? ⟨gb183, 5, none⟩ = some (.int .i64 a0_5) ∧ w65.cell? ⟨gb183, 6, none⟩ = some (.int .i64 a0_6) ∧ w65.cell? ⟨gb183, 7, none⟩ = some (.int .i64 a0_7) ∧ w65.cell? ⟨gb183, 8, none⟩ = some (.int .i64 a0_8) ∧ w65.cell? ⟨gb183, 9, none⟩ = some (.int .i64 a0_9) ∧ w65.cell? ⟨gb183, 10, none⟩ = some (.slice A0_10 l0_10.length c0_10) ∧ w65.cell? ⟨gb183, 11, none⟩ = some (.int .i64 a0_11) ∧ w65.cell? ⟨gb183, 12, none⟩ = some (.int .i64 a0_12) := hS_
                        refine norm_ (a' := ?_) ?_ ?_
                        rotate_left
                        · simp only [putAll, Act.put, List.setIfInBounds_toArray, List.set_cons_zero, List.set_cons_succ]
                          rfl
                        refine two_ (i := 4) (j := 11) (Ni := some 14) (Nj := some 21) #[true, true, true, true, true, true, true, true, false, true, true, false, false, false] #[true, true, true, true, false, true, true, true, false, true, true, true, false, false] rfl rfl rfl rfl (two_of HT_.out (by kernel_rfl)) (by decide) (by decide) (fun K hK => ?_) (fun K hK => ?_)
                        · skip
                          have hcv66 := own_string (P := Try.prog) Try.underlying51 Try.underlying5 Try.underlying9 (Kd.own_of_R HO187.out)
                          refine value_ (w1 := ?_) (v := ?_) (by rfl) rfl ?_ ?_
                          rotate_left 2
                          · go_simp
                            constructor
                            · rfl
                            · rfl
                          clear hcv66
                          refine hK.out _ _ ⟨(blk_cell BK183.out 0).trans rfl, (blk_cell BK183.out 1).trans rfl, (blk_cell BK183.out 2).trans rfl, (blk_cell BK183.out 3).trans rfl, (blk_cell BK183.out 4).trans rfl, (blk_cell BK183.out 5).trans rfl, (blk_cell BK183.out 6).trans rfl, (blk_cell BK183.out 7).trans rfl, (blk_cell BK183.out 8).trans rfl, (blk_cell BK183.out 9).trans rfl, (blk_cell BK183.out 10).trans rfl, (blk_cell BK183.out 11).trans rfl, (blk_cell BK183.out 12).trans rfl⟩ (fun hHeld => ?_)
                          clear hK K
                          refine norm_ (a' := ?_) ?_ ?_
                          rotate_left
                          · show Act.put _ (some 14) _ = _
                            simp only [Act.put, List.setIfInBounds_toArray, List.set_cons_zero, List.set_cons_succ, i64_w, i32_w]
                            rfl
                          refine pure_ (i := 8) (N := some 18) (v := ?_) (a' := ?_) #[true, true, true, true, true, true, true, true, true, true, true, false, false, false] rfl rfl (any_of HT_.out (by kernel_rfl)) (fun _ _ _ h => h) (Or.inl ⟨by rfl, ?_⟩) ?_ ?_
                          rotate_left
                          · intro w'
                            go_simp
                            with_reducible rfl
                          rotate_left
                          · simp only [Act.put, List.setIfInBounds_toArray, List.set_cons_zero, List.set_cons_succ, i64_w, i32_w]
                            rfl
                          exact norm_ (by first | (simp only [putAll, Act.put, List.setIfInBounds_toArray, List.set_cons_zero, List.set_cons_succ]; done) | (simp only [putAll, Act.put, List.setIfInBounds_toArray, List.set_cons_zero, List.set_cons_succ]; rfl)) (hJ3_4_7 (v186) _ ⟨hHeld, (by (with_reducible repeat (first | apply Kd.R_alloc | apply Kd.R_drewN | apply Kd.R_drew)); exact HO187.out), (by (with_reducible repeat (first | refine blk_drewN ?_ _ | refine blk_drew ?_ | refine blk_alloc ?_ _)); exact BK183.out), (by repeat (first | (with_reducible first | exact HB.out | apply below_alloc | apply pw_below_drewN | apply below_drew1 | refine below_set ?_ GE183.out) | exact HB.out))⟩)
                        · skip
                          refine goes_ Try.func30 (by kernel_rfl) rfl #[.int .i64 a0_2] (by rfl) rfl rfl (by (try simp only [List.map_toArray, List.map_cons, List.map_nil]); first | done | rfl | (simp only [List.length_drop, List.length_take]; rfl)) ?_
                          with_reducible refine (hushref16_Number.calls k a0_2 t189 _ A6.out).mono ?_
                          rintro e w66 ⟨rfl, hb⟩
                          refine ⟨_, rfl, ?_⟩
                          have n0_ := Aside0.mk (Kd.R_below (by (with_reducible repeat (first | apply Kd.R_alloc | apply Kd.R_drewN | apply Kd.R_drew)); exact HO187.out) hb)
                          have n1_ := Aside0.mk (blk_below (g := gb183) (o := .cells #[.int .i64 a0_0, .string a0_1, .int .i64 a0_2, .string a0_3, .string a0_4, .int .i64 a0_5, .int .i64 a0_6, .int .i64 a0_7, .int .i64 a0_8, .int .i64 a0_9, .slice A0_10 l0_10.length c0_10, .int .i64 a0_11, .int .i64 a0_12] 40 (0, 0)) (by (with_reducible repeat (first | refine blk_drewN ?_ _ | refine blk_drew ?_ | refine blk_alloc ?_ _)); exact BK183.out) hb)
                          have n2_ := Aside0.mk (below_step (by repeat (first | (with_reducible first | exact HB.out | apply below_alloc | apply pw_below_drewN | apply below_drew1 | refine below_set ?_ GE183.out) | exact HB.out)) hb)
                          clear HO187
                          clear BK183
                          clear HB
                          have HO187 := n0_
                          have BK183 := n1_
                          have HB := n2_
                          clear n0_ n1_ n2_
                          (try clear hb)
                          (try clear hb2)
                          (try clear hk)
                          (try clear hi)
                          refine hK.out _ _ ⟨(blk_cell BK183.out 0).trans rfl, (blk_cell BK183.out 1).trans rfl, (blk_cell BK183.out 2).trans rfl, (blk_cell BK183.out 3).trans rfl, (blk_cell BK183.out 4).trans rfl, (blk_cell BK183.out 5).trans rfl, (blk_cell BK183.out 6).trans rfl, (blk_cell BK183.out 7).trans rfl, (blk_cell BK183.out 8).trans rfl, (blk_cell BK183.out 9).trans rfl, (blk_cell BK183.out 10).trans rfl, (blk_cell BK183.out 11).trans rfl, (blk_cell BK183.out 12).trans rfl⟩ (fun hHeld => ?_)
                          clear hK K
                          refine norm_ (a' := ?_) ?_ ?_
                          rotate_left
                          · show Act.put _ (some 21) _ = _
                            simp only [Act.put, List.setIfInBounds_toArray, List.set_cons_zero, List.set_cons_succ, i64_w, i32_w]
                            rfl
                          exact norm_ (by first | (simp only [putAll, Act.put, List.setIfInBounds_toArray, List.set_cons_zero, List.set_cons_succ]; done) | (simp only [putAll, Act.put, List.setIfInBounds_toArray, List.set_cons_zero, List.set_cons_succ]; rfl)) (hJ3_7_11 (v186) _ ⟨hHeld, (by (with_reducible repeat (first | apply Kd.R_alloc | apply Kd.R_drewN | apply Kd.R_drew)); exact HO187.out), (by (with_reducible repeat (first | refine blk_drewN ?_ _ | refine blk_drew ?_ | refine blk_alloc ?_ _)); exact BK183.out), (by repeat (first | (with_reducible first | exact HB.out | apply below_alloc | apply pw_below_drewN | apply below_drew1 | refine below_set ?_ GE183.out) | exact HB.out))⟩)
                    · skip
                      rintro v186 w65 ⟨hS_, h0_, h1_, h2_⟩
                      have n0_ : Aside0 (Kd.R (Kd.int .u8) 5 w65 w.heap.size (fun _ => True) v186 y185) := ⟨h0_⟩
                      have n1_ : Aside0 (w65.heap[gb183]? = some (.cells #[.int .i64 a0_0, .string a0_1, .int .i64 a0_2, .string a0_3, .string a0_4, .int .i64 a0_5, .int .i64 a0_6, .int .i64 a0_7, .int .i64 a0_8, .int .i64 a0_9, .slice A0_10 l0_10.length c0_10, .int .i64 a0_11, .int .i64 a0_12] 40 (0, 0))) := ⟨h1_⟩
                      have n2_ : Aside0 (Below w.heap.size w w65) := ⟨h2_⟩
                      clear BK183
                      clear HB
                      clear h0_ h1_ h2_
                      have HO187 := n0_
                      have BK183 := n1_
                      have HB := n2_
                      clear n0_ n1_ n2_
                      have hHeld : w65.cell? ⟨gb183, 0, none⟩ = some (.int .i64 a0_0) ∧ w65.cell? ⟨gb183, 1, none⟩ = some (.string a0_1) ∧ w65.cell? ⟨gb183, 2, none⟩ = some (.int .i64 a0_2) ∧ w65.cell? ⟨gb183, 3, none⟩ = some (.string a0_3) ∧ w65.cell? ⟨gb183, 4, none⟩ = some (.string a0_4) ∧ w65.cell? ⟨gb183, 5, none⟩ = some (.int .i64 a0_5) ∧ w65.cell? ⟨gb183, 6, none⟩ = some (.int .i64 a0_6) ∧ w65.cell? ⟨gb183, 7, none⟩ = some (.int .i64 a0_7) ∧ w65.cell? ⟨gb183, 8, none⟩ = some (.int .i64 a0_8) ∧ w65.cell? ⟨gb183, 9, none⟩ = some (.int .i64 a0_9) ∧ w65.cell? ⟨gb183, 10, none⟩ = some (.slice A0_10 l0_10.length c0_10) ∧ w65.cell? ⟨gb183, 11, none⟩ = some (.int .i64 a0_11) ∧ w65.cell? ⟨gb183, 12, none⟩ = some (.int .i64 a0_12) := hS_
                      refine norm_ (a' := ?_) ?_ ?_
                      rotate_left
                      · simp only [putAll, Act.put, List.setIfInBounds_toArray, List.set_cons_zero, List.set_cons_succ]
                        rfl
                      refine one_ (i := 7) (N := some 17) #[true, true, true, true, true, true, true, true, false, true, true, false, false, false] rfl rfl (one_of HT_.out (by kernel_rfl)) (by decide) (fun K hK => ?_)
                      refine goes_ Try.func29 (by kernel_rfl) rfl #[.string a0_1] (by rfl) rfl rfl (by (try simp only [List.map_toArray, List.map_cons, List.map_nil]); first | done | rfl | (simp only [List.length_drop, List.length_take]; rfl)) ?_
                      with_reducible refine (hushref16_text.calls k a0_1 t188 _ A4.out).mono ?_
                      rintro e w66 ⟨rfl, hb⟩
                      refine ⟨_, rfl, ?_⟩
                      have n0_ := Aside0.mk (Kd.R_below (by (with_reducible repeat (first | apply Kd.R_alloc | apply Kd.R_drewN | apply Kd.R_drew)); exact HO187.out) hb)
                      have n1_ := Aside0.mk (blk_below (g := gb183) (o := .cells #[.int .i64 a0_0, .string a0_1, .int .i64 a0_2, .string a0_3, .string a0_4, .int .i64 a0_5, .int .i64 a0_6, .int .i64 a0_7, .int .i64 a0_8, .int .i64 a0_9, .slice A0_10 l0_10.length c0_10, .int .i64 a0_11, .int .i64 a0_12] 40 (0, 0)) (by (with_reducible repeat (first | refine blk_drewN ?_ _ | refine blk_drew ?_ | refine blk_alloc ?_ _)); exact BK183.out) hb)
                      have n2_ := Aside0.mk (below_step (by repeat (first | (with_reducible first | exact HB.out | apply below_alloc | apply pw_below_drewN | apply below_drew1 | refine below_set ?_ GE183.out) | exact HB.out)) hb)
                      clear HO187
                      clear BK183
                      clear HB
                      have HO187 := n0_
                      have BK183 := n1_
                      have HB := n2_
                      clear n0_ n1_ n2_
                      (try clear hb)
                      (try clear hb2)
                      (try clear hk)
                      (try clear hi)
                      refine hK.out _ _ ⟨(blk_cell BK183.out 0).trans rfl, (blk_cell BK183.out 1).trans rfl, (blk_cell BK183.out 2).trans rfl, (blk_cell BK183.out 3).trans rfl, (blk_cell BK183.out 4).trans rfl, (blk_cell BK183.out 5).trans rfl, (blk_cell BK183.out 6).trans rfl, (blk_cell BK183.out 7).trans rfl, (blk_cell BK183.out 8).trans rfl, (blk_cell BK183.out 9).trans rfl, (blk_cell BK183.out 10).trans rfl, (blk_cell BK183.out 11).trans rfl, (blk_cell BK183.out 12).trans rfl⟩ (fun hHeld => ?_)
                      clear hK K
                      refine norm_ (a' := ?_) ?_ ?_
                      rotate_left
                      · show Act.put _ (some 17) _ = _
                        simp only [Act.put, List.setIfInBounds_toArray, List.set_cons_zero, List.set_cons_succ, i64_w, i32_w]
                        rfl
                      refine pure_ (i := 8) (N := some 18) (v := ?_) (a' := ?_) #[true, true, true, true, true, true, true, true, true, true, true, false, false, false] rfl rfl (any_of HT_.out (by kernel_rfl)) (fun _ _ _ h => h) (Or.inl ⟨by rfl, ?_⟩) ?_ ?_
                      rotate_left
                      · intro w'
                        go_simp
                        with_reducible rfl
                      rotate_left
                      · simp only [Act.put, List.setIfInBounds_toArray, List.set_cons_zero, List.set_cons_succ, i64_w, i32_w]
                        rfl
                      exact norm_ (by first | (simp only [putAll, Act.put, List.setIfInBounds_toArray, List.set_cons_zero, List.set_cons_succ]; done) | (simp only [putAll, Act.put, List.setIfInBounds_toArray, List.set_cons_zero, List.set_cons_succ]; rfl)) (hJ3_4_7 (v186) _ ⟨hHeld, (by (with_reducible repeat (first | apply Kd.R_alloc | apply Kd.R_drewN | apply Kd.R_drew)); exact HO187.out), (by (with_reducible repeat (first | refine blk_drewN ?_ _ | refine blk_drew ?_ | refine blk_alloc ?_ _)); exact BK183.out), (by repeat (first | (with_reducible first | exact HB.out | apply below_alloc | apply pw_below_drewN | apply below_drew1 | refine below_set ?_ GE183.out) | exact HB.out))⟩)
                  · skip
                    rintro v186 w66 ⟨hS_, h0_, h1_, h2_⟩
                    have n0_ : Aside0 (Kd.R (Kd.int .u8) 5 w66 w.heap.size (fun _ => True) v186 y185) := ⟨h0_⟩
                    have n1_ : Aside0 (w66.heap[gb183]? = some (.cells #[.int .i64 a0_0, .string a0_1, .int .i64 a0_2, .string a0_3, .string a0_4, .int .i64 a0_5, .int .i64 a0_6, .int .i64 a0_7, .int .i64 a0_8, .int .i64 a0_9, .slice A0_10 l0_10.length c0_10, .int .i64 a0_11, .int .i64 a0_12] 40 (0, 0))) := ⟨h1_⟩
                    have n2_ : Aside0 (Below w.heap.size w w66) := ⟨h2_⟩
                    clear BK183
                    clear HB
                    clear h0_ h1_ h2_
                    have HO187 := n0_
                    have BK183 := n1_
                    have HB := n2_
                    clear n0_ n1_ n2_
                    have hHeld : w66.cell? ⟨gb183, 0, none⟩ = some (.int .i64 a0_0) ∧ w66.cell? ⟨gb183, 1, none⟩ = some (.string a0_1) ∧ w66.cell? ⟨gb183, 2, none⟩ = some (.int .i64 a0_2) ∧ w66.cell? ⟨gb183, 3, none⟩ = some (.string a0_3) ∧ w66.cell? ⟨gb183, 4, none⟩ = some (.string a0_4) ∧ w66.cell? ⟨gb183, 5, none⟩ = some (.int .i64 a0_5) ∧ w66.cell? ⟨gb183, 6, none⟩ = some (.int .i64 a0_6) ∧ w66.cell? ⟨gb183, 7, none⟩ = some (.int .i64 a0_7) ∧ w66.cell? ⟨gb183, 8, none⟩ = some (.int .i64 a0_8) ∧ w66.cell? ⟨gb183, 9, none⟩ = some (.int .i64 a0_9) ∧ w66.cell? ⟨gb183, 10, none⟩ = some (.slice A0_10 l0_10.length c0_10) ∧ w66.cell? ⟨gb183, 11, none⟩ = some (.int .i64 a0_11) ∧ w66.cell? ⟨gb183, 12, none⟩ = some (.int .i64 a0_12) := hS_
                    refine norm_ (a' := ?_) ?_ ?_
                    rotate_left
                    · simp only [putAll, Act.put, List.setIfInBounds_toArray, List.set_cons_zero, List.set_cons_succ]
                      rfl
                    refine one_ (i := 4) (N := some 14) #[true, true, true, true, true, true, true, true, false, true, true, true, false, false] rfl rfl (one_of HT_.out (by kernel_rfl)) (by decide) (fun K hK => ?_)
                    have hcv67 := own_string (P := Try.prog) Try.underlying51 Try.underlying5 Try.underlying9 (Kd.own_of_R HO187.out)
                    refine value_ (w1 := ?_) (v := ?_) (by rfl) rfl ?_ ?_
                    rotate_left 2
                    · go_simp
                      constructor
                      · rfl
                      · rfl
                    clear hcv67
                    refine hK.out _ _ ⟨(blk_cell BK183.out 0).trans rfl, (blk_cell BK183.out 1).trans rfl, (blk_cell BK183.out 2).trans rfl, (blk_cell BK183.out 3).trans rfl, (blk_cell BK183.out 4).trans rfl, (blk_cell BK183.out 5).trans rfl, (blk_cell BK183.out 6).trans rfl, (blk_cell BK183.out 7).trans rfl, (blk_cell BK183.out 8).trans rfl, (blk_cell BK183.out 9).trans rfl, (blk_cell BK183.out 10).trans rfl, (blk_cell BK183.out 11).trans rfl, (blk_cell BK183.out 12).trans rfl⟩ (fun hHeld => ?_)
                    clear hK K
                    refine norm_ (a' := ?_) ?_ ?_
                    rotate_left
                    · show Act.put _ (some 14) _ = _
                      simp only [Act.put, List.setIfInBounds_toArray, List.set_cons_zero, List.set_cons_succ, i64_w, i32_w]
                      rfl
                    refine pure_ (i := 8) (N := some 18) (v := ?_) (a' := ?_) #[true, true, true, true, true, true, true, true, true, true, true, true, false, false] rfl rfl (any_of HT_.out (by kernel_rfl)) (fun _ _ _ h => h) (Or.inl ⟨by rfl, ?_⟩) ?_ ?_
                    rotate_left
                    · intro w'
                      go_simp
                      with_reducible rfl
                    rotate_left
                    · simp only [Act.put, List.setIfInBounds_toArray, List.set_cons_zero, List.set_cons_succ, i64_w, i32_w]
                      rfl
                    exact norm_ (by first | (simp only [putAll, Act.put, List.setIfInBounds_toArray, List.set_cons_zero, List.set_cons_succ]; done) | (simp only [putAll, Act.put, List.setIfInBounds_toArray, List.set_cons_zero, List.set_cons_succ]; rfl)) (hJ3_4_7_11 (v186) _ ⟨hHeld, (by (with_reducible repeat (first | apply Kd.R_alloc | apply Kd.R_drewN | apply Kd.R_drew)); exact HO187.out), (by (with_reducible repeat (first | refine blk_drewN ?_ _ | refine blk_drew ?_ | refine blk_alloc ?_ _)); exact BK183.out), (by repeat (first | (with_reducible first | exact HB.out | apply below_alloc | apply pw_below_drewN | apply below_drew1 | refine below_set ?_ GE183.out) | exact HB.out))⟩)
                · skip
                  rintro v186 w66 ⟨hS_, h0_, h1_, h2_⟩
                  have n0_ : Aside0 (Kd.R (Kd.int .u8) 5 w66 w.heap.size (fun _ => True) v186 y185) := ⟨h0_⟩
                  have n1_ : Aside0 (w66.heap[gb183]? = some (.cells #[.int .i64 a0_0, .string a0_1, .int .i64 a0_2, .string a0_3, .string a0_4, .int .i64 a0_5, .int .i64 a0_6, .int .i64 a0_7, .int .i64 a0_8, .int .i64 a0_9, .slice A0_10 l0_10.length c0_10, .int .i64 a0_11, .int .i64 a0_12] 40 (0, 0))) := ⟨h1_⟩
                  have n2_ : Aside0 (Below w.heap.size w w66) := ⟨h2_⟩
                  clear BK183
                  clear HB
                  clear h0_ h1_ h2_
                  have HO187 := n0_
                  have BK183 := n1_
                  have HB := n2_
                  clear n0_ n1_ n2_
                  have hHeld : w66.cell? ⟨gb183, 0, none⟩ = some (.int .i64 a0_0) ∧ w66.cell? ⟨gb183, 1, none⟩ = some (.string a0_1) ∧ w66.cell? ⟨gb183, 2, none⟩ = some (.int .i64 a0_2) ∧ w66.cell? ⟨gb183, 3, none⟩ = some (.string a0_3) ∧ w66.cell? ⟨gb183, 4, none⟩ = some (.string a0_4) ∧ w66.cell? ⟨gb183, 5, none⟩ = some (.int .i64 a0_5) ∧ w66.cell? ⟨gb183, 6, none⟩ = some (.int .i64 a0_6) ∧ w66.cell? ⟨gb183, 7, none⟩ = some (.int .i64 a0_7) ∧ w66.cell? ⟨gb183, 8, none⟩ = some (.int .i64 a0_8) ∧ w66.cell? ⟨gb183, 9, none⟩ = some (.int .i64 a0_9) ∧ w66.cell? ⟨gb183, 10, none⟩ = some (.slice A0_10 l0_10.length c0_10) ∧ w66.cell? ⟨gb183, 11, none⟩ = some (.int .i64 a0_11) ∧ w66.cell? ⟨gb183, 12, none⟩ = some (.int .i64 a0_12) := hS_
                  refine norm_ (a' := ?_) ?_ ?_
                  rotate_left
                  · simp only [putAll, Act.put, List.setIfInBounds_toArray, List.set_cons_zero, List.set_cons_succ]
                    rfl
                  refine one_ (i := 11) (N := some 21) #[true, true, true, true, true, true, true, true, true, true, true, true, false, false] rfl rfl (one_of HT_.out (by kernel_rfl)) (by decide) (fun K hK => ?_)
                  refine goes_ Try.func30 (by kernel_rfl) rfl #[.int .i64 a0_2] (by rfl) rfl rfl (by (try simp only [List.map_toArray, List.map_cons, List.map_nil]); first | done | rfl | (simp only [List.length_drop, List.length_take]; rfl)) ?_
                  with_reducible refine (hushref16_Number.calls k a0_2 t189 _ A6.out).mono ?_
                  rintro e w67 ⟨rfl, hb⟩
                  refine ⟨_, rfl, ?_⟩
                  have n0_ := Aside0.mk (Kd.R_below (by (with_reducible repeat (first | apply Kd.R_alloc | apply Kd.R_drewN | apply Kd.R_drew)); exact HO187.out) hb)
                  have n1_ := Aside0.mk (blk_below (g := gb183) (o := .cells #[.int .i64 a0_0, .string a0_1, .int .i64 a0_2, .string a0_3, .string a0_4, .int .i64 a0_5, .int .i64 a0_6, .int .i64 a0_7, .int .i64 a0_8, .int .i64 a0_9, .slice A0_10 l0_10.length c0_10, .int .i64 a0_11, .int .i64 a0_12] 40 (0, 0)) (by (with_reducible repeat (first | refine blk_drewN ?_ _ | refine blk_drew ?_ | refine blk_alloc ?_ _)); exact BK183.out) hb)
                  have n2_ := Aside0.mk (below_step (by repeat (first | (with_reducible first | exact HB.out | apply below_alloc | apply pw_below_drewN | apply below_drew1 | refine below_set ?_ GE183.out) | exact HB.out)) hb)
                  clear HO187
                  clear BK183
                  clear HB
                  have HO187 := n0_
                  have BK183 := n1_
                  have HB := n2_
                  clear n0_ n1_ n2_
                  (try clear hb)
                  (try clear hb2)
                  (try clear hk)
                  (try clear hi)
                  refine hK.out _ _ ⟨(blk_cell BK183.out 0).trans rfl, (blk_cell BK183.out 1).trans rfl, (blk_cell BK183.out 2).trans rfl, (blk_cell BK183.out 3).trans rfl, (blk_cell BK183.out 4).trans rfl, (blk_cell BK183.out 5).trans rfl, (blk_cell BK183.out 6).trans rfl, (blk_cell BK183.out 7).trans rfl, (blk_cell BK183.out 8).trans rfl, (blk_cell BK183.out 9).trans rfl, (blk_cell BK183.out 10).trans rfl, (blk_cell BK183.out 11).trans rfl, (blk_cell BK183.out 12).trans rfl⟩ (fun hHeld => ?_)
                  clear hK K
                  refine norm_ (a' := ?_) ?_ ?_
                  rotate_left
                  · show Act.put _ (some 21) _ = _
                    simp only [Act.put, List.setIfInBounds_toArray, List.set_cons_zero, List.set_cons_succ, i64_w, i32_w]
                    rfl
                  exact norm_ (by first | (simp only [putAll, Act.put, List.setIfInBounds_toArray, List.set_cons_zero, List.set_cons_succ]; done) | (simp only [putAll, Act.put, List.setIfInBounds_toArray, List.set_cons_zero, List.set_cons_succ]; rfl)) (hJ3_4_7_11 (v186) _ ⟨hHeld, (by (with_reducible repeat (first | apply Kd.R_alloc | apply Kd.R_drewN | apply Kd.R_drew)); exact HO187.out), (by (with_reducible repeat (first | refine blk_drewN ?_ _ | refine blk_drew ?_ | refine blk_alloc ?_ _)); exact BK183.out), (by repeat (first | (with_reducible first | exact HB.out | apply below_alloc | apply pw_below_drewN | apply below_drew1 | refine below_set ?_ GE183.out) | exact HB.out))⟩)
              rintro v186 w67 ⟨hS_, h0_, h1_, h2_⟩
              have n0_ : Aside0 (Kd.R (Kd.int .u8) 5 w67 w.heap.size (fun _ => True) v186 y185) := ⟨h0_⟩
              have n1_ : Aside0 (w67.heap[gb183]? = some (.cells #[.int .i64 a0_0, .string a0_1, .int .i64 a0_2, .string a0_3, .string a0_4, .int .i64 a0_5, .int .i64 a0_6, .int .i64 a0_7, .int .i64 a0_8, .int .i64 a0_9, .slice A0_10 l0_10.length c0_10, .int .i64 a0_11, .int .i64 a0_12] 40 (0, 0))) := ⟨h1_⟩
              have n2_ : Aside0 (Below w.heap.size w w67) := ⟨h2_⟩
              clear BK183
              clear HB
              clear h0_ h1_ h2_
              have HO187 := n0_
              have BK183 := n1_
              have HB := n2_
              clear n0_ n1_ n2_
              have hHeld : w67.cell? ⟨gb183, 0, none⟩ = some (.int .i64 a0_0) ∧ w67.cell? ⟨gb183, 1, none⟩ = some (.string a0_1) ∧ w67.cell? ⟨gb183, 2, none⟩ = some (.int .i64 a0_2) ∧ w67.cell? ⟨gb183, 3, none⟩ = some (.string a0_3) ∧ w67.cell? ⟨gb183, 4, none⟩ = some (.string a0_4) ∧ w67.cell? ⟨gb183, 5, none⟩ = some (.int .i64 a0_5) ∧ w67.cell? ⟨gb183, 6, none⟩ = some (.int .i64 a0_6) ∧ w67.cell? ⟨gb183, 7, none⟩ = some (.int .i64 a0_7) ∧ w67.cell? ⟨gb183, 8, none⟩ = some (.int .i64 a0_8) ∧ w67.cell? ⟨gb183, 9, none⟩ = some (.int .i64 a0_9) ∧ w67.cell? ⟨gb183, 10, none⟩ = some (.slice A0_10 l0_10.length c0_10) ∧ w67.cell? ⟨gb183, 11, none⟩ = some (.int .i64 a0_11) ∧ w67.cell? ⟨gb183, 12, none⟩ = some (.int .i64 a0_12) := hS_
              refine norm_ (a' := ?_) ?_ ?_
              rotate_left
              · simp only [putAll, Act.put, List.setIfInBounds_toArray, List.set_cons_zero, List.set_cons_succ]
                rfl
              refine pure_ (i := 12) (N := some 22) (v := ?_) (a' := ?_) #[true, true, true, true, true, true, true, true, true, true, true, true, true, false] rfl rfl (any_of HT_.out (by kernel_rfl)) (fun _ _ _ h => h) (Or.inl ⟨by rfl, ?_⟩) ?_ ?_
              rotate_left
              · intro w'
                go_simp
                with_reducible rfl
              rotate_left
              · simp only [Act.put, List.setIfInBounds_toArray, List.set_cons_zero, List.set_cons_succ, i64_w, i32_w]
                rfl
              refine pure_ (i := 13) (N := some 4) (v := ?_) (a' := ?_) #[true, true, true, true, true, true, true, true, true, true, true, true, true, true] rfl rfl (any_of HT_.out (by kernel_rfl)) (fun _ _ _ h => h) (Or.inl ⟨by rfl, ?_⟩) ?_ ?_
              rotate_left
              · intro w'
                go_simp
                with_reducible rfl
              rotate_left
              · simp only [Act.put, List.setIfInBounds_toArray, List.set_cons_zero, List.set_cons_succ, i64_w, i32_w]
                rfl
              refine done_ (done_of HT_.out (by kernel_rfl)) ?_
              have hcz68_0 : w67.cell? ⟨gb183, 0, none⟩ = some (.int .i64 a0_0) := (blk_cell BK183.out 0).trans rfl
              have hcz68_1 : w67.cell? ⟨gb183, 1, none⟩ = some (.string a0_1) := (blk_cell BK183.out 1).trans rfl
              have hcz68_2 : w67.cell? ⟨gb183, 2, none⟩ = some (.int .i64 a0_2) := (blk_cell BK183.out 2).trans rfl
              have hcz68_3 : w67.cell? ⟨gb183, 3, none⟩ = some (.string a0_3) := (blk_cell BK183.out 3).trans rfl
              have hcz68_4 : w67.cell? ⟨gb183, 4, none⟩ = some (.string a0_4) := (blk_cell BK183.out 4).trans rfl
              have hcz68_5 : w67.cell? ⟨gb183, 5, none⟩ = some (.int .i64 a0_5) := (blk_cell BK183.out 5).trans rfl
              have hcz68_6 : w67.cell? ⟨gb183, 6, none⟩ = some (.int .i64 a0_6) := (blk_cell BK183.out 6).trans rfl
              have hcz68_7 : w67.cell? ⟨gb183, 7, none⟩ = some (.int .i64 a0_7) := (blk_cell BK183.out 7).trans rfl
              have hcz68_8 : w67.cell? ⟨gb183, 8, none⟩ = some (.int .i64 a0_8) := (blk_cell BK183.out 8).trans rfl
              have hcz68_9 : w67.cell? ⟨gb183, 9, none⟩ = some (.int .i64 a0_9) := (blk_cell BK183.out 9).trans rfl
              have hcz68_10 : w67.cell? ⟨gb183, 10, none⟩ = some (.slice A0_10 l0_10.length c0_10) := (blk_cell BK183.out 10).trans rfl
              have hcz68_11 : w67.cell? ⟨gb183, 11, none⟩ = some (.int .i64 a0_11) := (blk_cell BK183.out 11).trans rfl
              have hcz68_12 : w67.cell? ⟨gb183, 12, none⟩ = some (.int .i64 a0_12) := (blk_cell BK183.out 12).trans rfl
              have hfz68_0 := blk_frozen BK183.out 0
              have hfz68_1 := blk_frozen BK183.out 1
              have hfz68_2 := blk_frozen BK183.out 2
              have hfz68_3 := blk_frozen BK183.out 3
              have hfz68_4 := blk_frozen BK183.out 4
              have hfz68_5 := blk_frozen BK183.out 5
              have hfz68_6 := blk_frozen BK183.out 6
              have hfz68_7 := blk_frozen BK183.out 7
              have hfz68_8 := blk_frozen BK183.out 8
              have hfz68_9 := blk_frozen BK183.out 9
              have hfz68_10 := blk_frozen BK183.out 10
              have hfz68_11 := blk_frozen BK183.out 11
              have hfz68_12 := blk_frozen BK183.out 12
              try go_wp2
              have n0_ := Aside0.mk (Kd.R_drew HO187.out)
              have n1_ := Aside0.mk (blk_drew BK183.out)
              have n2_ := Aside0.mk (below_drew1 HB.out)
              clear HO187
              clear BK183
              clear HB
              have HO187 := n0_
              have BK183 := n1_
              have HB := n2_
              clear n0_ n1_ n2_
              refine start_ (n := 12) (S := fun w' => w'.cell? ⟨gb183, 0, none⟩ = some (.int .i64 a0_0) ∧ w'.cell? ⟨gb183, 1, none⟩ = some (.string a0_1) ∧ w'.cell? ⟨gb183, 2, none⟩ = some (.int .i64 a0_2) ∧ w'.cell? ⟨gb183, 3, none⟩ = some (.string a0_3) ∧ w'.cell? ⟨gb183, 4, none⟩ = some (.string a0_4) ∧ w'.cell? ⟨gb183, 5, none⟩ = some (.int .i64 a0_5) ∧ w'.cell? ⟨gb183, 6, none⟩ = some (.int .i64 a0_6) ∧ w'.cell? ⟨gb183, 7, none⟩ = some (.int .i64 a0_7) ∧ w'.cell? ⟨gb183, 8, none⟩ = some (.int .i64 a0_8) ∧ w'.cell? ⟨gb183, 9, none⟩ = some (.int .i64 a0_9) ∧ w'.cell? ⟨gb183, 10, none⟩ = some (.slice A0_10 l0_10.length c0_10) ∧ w'.cell? ⟨gb183, 11, none⟩ = some (.int .i64 a0_11) ∧ w'.cell? ⟨gb183, 12, none⟩ = some (.int .i64 a0_12)) (ds := []) #[false, false, false, false, false, false, false, false, false, false, false, false] (by kernel_rfl) rfl rfl ⟨(blk_cell BK183.out 0).trans rfl, (blk_cell BK183.out 1).trans rfl, (blk_cell BK183.out 2).trans rfl, (blk_cell BK183.out 3).trans rfl, (blk_cell BK183.out 4).trans rfl, (blk_cell BK183.out 5).trans rfl, (blk_cell BK183.out 6).trans rfl, (blk_cell BK183.out 7).trans rfl, (blk_cell BK183.out 8).trans rfl, (blk_cell BK183.out 9).trans rfl, (blk_cell BK183.out 10).trans rfl, (blk_cell BK183.out 11).trans rfl, (blk_cell BK183.out 12).trans rfl⟩ (fun hHeld => ?_); refine with_tabW hushref16_Pack.tab6 hushref16_Pack.bits6 (fun HT_ HW_ => ?_)
              generalize w67.drew = w69 at HO187 BK183 HB hHeld ⊢
              refine pure_ (i := 0) (N := some 47) (v := ?_) (a' := ?_) #[true, false, false, false, false, false, false, false, false, false, false, false] rfl rfl (any_of HT_.out (by kernel_rfl)) (fun _ _ _ h => h) (Or.inl ⟨by rfl, ?_⟩) ?_ ?_
              rotate_left
              · intro w'
                go_simp
                with_reducible rfl
              rotate_left
              · simp only [Act.put, List.setIfInBounds_toArray, List.set_cons_zero, List.set_cons_succ, i64_w, i32_w]
                rfl
              refine pure_ (i := 1) (N := some 48) (v := ?_) (a' := ?_) #[true, true, false, false, false, false, false, false, false, false, false, false] rfl rfl (any_of HT_.out (by kernel_rfl)) (fun _ _ _ h => h) (Or.inl ⟨by rfl, ?_⟩) ?_ ?_
              rotate_left
              · intro w'
                go_simp
                with_reducible rfl
              rotate_left
              · simp only [Act.put, List.setIfInBounds_toArray, List.set_cons_zero, List.set_cons_succ, i64_w, i32_w]
                rfl
              refine pure_ (i := 5) (N := some 52) (v := ?_) (a' := ?_) #[true, true, false, false, false, true, false, false, false, false, false, false] rfl rfl (any_of HT_.out (by kernel_rfl)) (fun _ _ _ h => h) (Or.inl ⟨by rfl, ?_⟩) ?_ ?_
              rotate_left
              · intro w'
                go_simp
                with_reducible rfl
              rotate_left
              · simp only [Act.put, List.setIfInBounds_toArray, List.set_cons_zero, List.set_cons_succ, i64_w, i32_w]
                rfl
              refine take_ (i := 2) (N := some 49) (v := ?_) (a' := ?_) #[true, true, true, false, false, true, false, false, false, false, false, false] rfl rfl (take_ofW HT_.out HW_.out (by kernel_rfl)) (fun _ _ _ h => h) (Or.inl ⟨by rfl, ?_⟩) hHeld ?_ ?_
              rotate_left
              · rintro w' ⟨s0, s1, s2, s3, s4, s5, s6, s7, s8, s9, s10, s11, s12⟩
                go_simp
                with_reducible rfl
              rotate_left
              · simp only [Act.put, List.setIfInBounds_toArray, List.set_cons_zero, List.set_cons_succ, i64_w, i32_w]
                rfl
              refine take_ (i := 6) (N := some 53) (v := ?_) (a' := ?_) #[true, true, true, false, false, true, true, false, false, false, false, false] rfl rfl (take_ofW HT_.out HW_.out (by kernel_rfl)) (fun _ _ _ h => h) (Or.inl ⟨by rfl, ?_⟩) hHeld ?_ ?_
              rotate_left
              · rintro w' ⟨s0, s1, s2, s3, s4, s5, s6, s7, s8, s9, s10, s11, s12⟩
                go_simp
                with_reducible rfl
              rotate_left
              · simp only [Act.put, List.setIfInBounds_toArray, List.set_cons_zero, List.set_cons_succ, i64_w, i32_w]
                rfl
              refine pure_ (i := 7) (N := some 54) (v := ?_) (a' := ?_) #[true, true, true, false, false, true, true, true, false, false, false, false] rfl rfl (any_of HT_.out (by kernel_rfl)) (fun _ _ _ h => h) (Or.inl ⟨by rfl, ?_⟩) ?_ ?_
              rotate_left
              · intro w'
                go_simp
                with_reducible rfl
              rotate_left
              · simp only [Act.put, List.setIfInBounds_toArray, List.set_cons_zero, List.set_cons_succ, i64_w, i32_w]
                rfl
              refine pure_ (i := 8) (N := some 55) (v := ?_) (a' := ?_) #[true, true, true, false, false, true, true, true, true, false, false, false] rfl rfl (any_of HT_.out (by kernel_rfl)) (fun _ _ _ h => h) (Or.inl ⟨by rfl, ?_⟩) ?_ ?_
              rotate_left
              · intro w'
                go_simp
                with_reducible rfl
              rotate_left
              · simp only [Act.put, List.setIfInBounds_toArray, List.set_cons_zero, List.set_cons_succ, i64_w, i32_w]
                rfl
              refine one_ (i := 3) (N := some 50) #[true, true, true, true, false, true, true, true, true, false, false, false] rfl rfl (one_of HT_.out (by kernel_rfl)) (by decide) (fun K hK => ?_)
              refine goes_ Try.func30 (by kernel_rfl) rfl #[.int .i64 a0_9] (by rfl) rfl rfl (by (try simp only [List.map_toArray, List.map_cons, List.map_nil]); first | done | rfl | (simp only [List.length_drop, List.length_take]; rfl)) ?_
              with_reducible refine (hushref16_Number.calls k a0_9 t195 _ A54.out).mono ?_
              rintro e w70 ⟨rfl, hb⟩
              refine ⟨_, rfl, ?_⟩
              have n0_ := Aside0.mk (Kd.R_below (by (with_reducible repeat (first | apply Kd.R_alloc | apply Kd.R_drewN | apply Kd.R_drew)); exact HO187.out) hb)
              have n1_ := Aside0.mk (blk_below (g := gb183) (o := .cells #[.int .i64 a0_0, .string a0_1, .int .i64 a0_2, .string a0_3, .string a0_4, .int .i64 a0_5, .int .i64 a0_6, .int .i64 a0_7, .int .i64 a0_8, .int .i64 a0_9, .slice A0_10 l0_10.length c0_10, .int .i64 a0_11, .int .i64 a0_12] 40 (0, 0)) (by (with_reducible repeat (first | refine blk_drewN ?_ _ | refine blk_drew ?_ | refine blk_alloc ?_ _)); exact BK183.out) hb)
              have n2_ := Aside0.mk (below_step (by repeat (first | (with_reducible first | exact HB.out | apply below_alloc | apply pw_below_drewN | apply below_drew1 | refine below_set ?_ GE183.out) | exact HB.out)) hb)
              clear HO187
              clear BK183
              clear HB
              have HO187 := n0_
              have BK183 := n1_
              have HB := n2_
              clear n0_ n1_ n2_
              (try clear hb)
              (try clear hb2)
              (try clear hk)
              (try clear hi)
              refine hK.out _ _ ⟨(blk_cell BK183.out 0).trans rfl, (blk_cell BK183.out 1).trans rfl, (blk_cell BK183.out 2).trans rfl, (blk_cell BK183.out 3).trans rfl, (blk_cell BK183.out 4).trans rfl, (blk_cell BK183.out 5).trans rfl, (blk_cell BK183.out 6).trans rfl, (blk_cell BK183.out 7).trans rfl, (blk_cell BK183.out 8).trans rfl, (blk_cell BK183.out 9).trans rfl, (blk_cell BK183.out 10).trans rfl, (blk_cell BK183.out 11).trans rfl, (blk_cell BK183.out 12).trans rfl⟩ (fun hHeld => ?_)
              clear hK K
              refine norm_ (a' := ?_) ?_ ?_
              rotate_left
              · show Act.put _ (some 50) _ = _
                simp only [Act.put, List.setIfInBounds_toArray, List.set_cons_zero, List.set_cons_succ, i64_w, i32_w]
                rfl
              refine pure_ (i := 4) (N := some 51) (v := ?_) (a' := ?_) #[true, true, true, true, true, true, true, true, true, false, false, false] rfl rfl (any_of HT_.out (by kernel_rfl)) (fun _ _ _ h => h) (Or.inl ⟨by rfl, ?_⟩) ?_ ?_
              rotate_left
              · intro w'
                go_simp
                with_reducible rfl
              rotate_left
              · simp only [Act.put, List.setIfInBounds_toArray, List.set_cons_zero, List.set_cons_succ, i64_w, i32_w]
                rfl
              refine one_ (i := 9) (N := some 56) #[true, true, true, true, true, true, true, true, true, true, false, false] rfl rfl (one_of HT_.out (by kernel_rfl)) (by decide) (fun K hK => ?_)
              refine goes_ Try.func32 (by kernel_rfl) rfl #[.int .u64 (IntKind.u64.wrap ((l0_10.length : Int)))] (by rfl) rfl rfl (by (try simp only [List.map_toArray, List.map_cons, List.map_nil]); first | done | rfl | (simp only [List.length_drop, List.length_take]; rfl)) ?_
              with_reducible refine (hushref16_Count.calls k (IntKind.u64.wrap ((l0_10.length : Int))) t196 _ A56.out).mono ?_
              rintro e w71 ⟨rfl, hb⟩
              refine ⟨_, rfl, ?_⟩
              have n0_ := Aside0.mk (Kd.R_below (by (with_reducible repeat (first | apply Kd.R_alloc | apply Kd.R_drewN | apply Kd.R_drew)); exact HO187.out) hb)
              have n1_ := Aside0.mk (blk_below (g := gb183) (o := .cells #[.int .i64 a0_0, .string a0_1, .int .i64 a0_2, .string a0_3, .string a0_4, .int .i64 a0_5, .int .i64 a0_6, .int .i64 a0_7, .int .i64 a0_8, .int .i64 a0_9, .slice A0_10 l0_10.length c0_10, .int .i64 a0_11, .int .i64 a0_12] 40 (0, 0)) (by (with_reducible repeat (first | refine blk_drewN ?_ _ | refine blk_drew ?_ | refine blk_alloc ?_ _)); exact BK183.out) hb)
              have n2_ := Aside0.mk (below_step (by repeat (first | (with_reducible first | exact HB.out | apply below_alloc | apply pw_below_drewN | apply below_drew1 | refine below_set ?_ GE183.out) | exact HB.out)) hb)
              clear HO187
              clear BK183
              clear HB
              have HO187 := n0_
              have BK183 := n1_
              have HB := n2_
              clear n0_ n1_ n2_
              (try clear hb)
              (try clear hb2)
              (try clear hk)
              (try clear hi)
              refine hK.out _ _ ⟨(blk_cell BK183.out 0).trans rfl, (blk_cell BK183.out 1).trans rfl, (blk_cell BK183.out 2).trans rfl, (blk_cell BK183.out 3).trans rfl, (blk_cell BK183.out 4).trans rfl, (blk_cell BK183.out 5).trans rfl, (blk_cell BK183.out 6).trans rfl, (blk_cell BK183.out 7).trans rfl, (blk_cell BK183.out 8).trans rfl, (blk_cell BK183.out 9).trans rfl, (blk_cell BK183.out 10).trans rfl, (blk_cell BK183.out 11).trans rfl, (blk_cell BK183.out 12).trans rfl⟩ (fun hHeld => ?_)
              clear hK K
              refine norm_ (a' := ?_) ?_ ?_
              rotate_left
              · show Act.put _ (some 56) _ = _
                simp only [Act.put, List.setIfInBounds_toArray, List.set_cons_zero, List.set_cons_succ, i64_w, i32_w]
                rfl
              refine pure_ (i := 10) (N := some 57) (v := ?_) (a' := ?_) #[true, true, true, true, true, true, true, true, true, true, true, false] rfl rfl (any_of HT_.out (by kernel_rfl)) (fun _ _ _ h => h) (Or.inl ⟨by rfl, ?_⟩) ?_ ?_
              rotate_left
              · intro w'
                go_simp
                with_reducible rfl
              rotate_left
              · simp only [Act.put, List.setIfInBounds_toArray, List.set_cons_zero, List.set_cons_succ, i64_w, i32_w]
                rfl
              refine pure_ (i := 11) (N := some 4) (v := ?_) (a' := ?_) #[true, true, true, true, true, true, true, true, true, true, true, true] rfl rfl (any_of HT_.out (by kernel_rfl)) (fun _ _ _ h => h) (Or.inl ⟨by rfl, ?_⟩) ?_ ?_
              rotate_left
              · intro w'
                go_simp
                with_reducible rfl
              rotate_left
              · simp only [Act.put, List.setIfInBounds_toArray, List.set_cons_zero, List.set_cons_succ, i64_w, i32_w]
                rfl
              refine done_ (done_of HT_.out (by kernel_rfl)) ?_
              have hcz72_0 : w71.cell? ⟨gb183, 0, none⟩ = some (.int .i64 a0_0) := (blk_cell BK183.out 0).trans rfl
              have hcz72_1 : w71.cell? ⟨gb183, 1, none⟩ = some (.string a0_1) := (blk_cell BK183.out 1).trans rfl
              have hcz72_2 : w71.cell? ⟨gb183, 2, none⟩ = some (.int .i64 a0_2) := (blk_cell BK183.out 2).trans rfl
              have hcz72_3 : w71.cell? ⟨gb183, 3, none⟩ = some (.string a0_3) := (blk_cell BK183.out 3).trans rfl
              have hcz72_4 : w71.cell? ⟨gb183, 4, none⟩ = some (.string a0_4) := (blk_cell BK183.out 4).trans rfl
              have hcz72_5 : w71.cell? ⟨gb183, 5, none⟩ = some (.int .i64 a0_5) := (blk_cell BK183.out 5).trans rfl
              have hcz72_6 : w71.cell? ⟨gb183, 6, none⟩ = some (.int .i64 a0_6) := (blk_cell BK183.out 6).trans rfl
              have hcz72_7 : w71.cell? ⟨gb183, 7, none⟩ = some (.int .i64 a0_7) := (blk_cell BK183.out 7).trans rfl
              have hcz72_8 : w71.cell? ⟨gb183, 8, none⟩ = some (.int .i64 a0_8) := (blk_cell BK183.out 8).trans rfl
              have hcz72_9 : w71.cell? ⟨gb183, 9, none⟩ = some (.int .i64 a0_9) := (blk_cell BK183.out 9).trans rfl
              have hcz72_10 : w71.cell? ⟨gb183, 10, none⟩ = some (.slice A0_10 l0_10.length c0_10) := (blk_cell BK183.out 10).trans rfl
              have hcz72_11 : w71.cell? ⟨gb183, 11, none⟩ = some (.int .i64 a0_11) := (blk_cell BK183.out 11).trans rfl
              have hcz72_12 : w71.cell? ⟨gb183, 12, none⟩ = some (.int .i64 a0_12) := (blk_cell BK183.out 12).trans rfl
              have hfz72_0 := blk_frozen BK183.out 0
              have hfz72_1 := blk_frozen BK183.out 1
              have hfz72_2 := blk_frozen BK183.out 2
              have hfz72_3 := blk_frozen BK183.out 3
              have hfz72_4 := blk_frozen BK183.out 4
              have hfz72_5 := blk_frozen BK183.out 5
              have hfz72_6 := blk_frozen BK183.out 6
              have hfz72_7 := blk_frozen BK183.out 7
              have hfz72_8 := blk_frozen BK183.out 8
              have hfz72_9 := blk_frozen BK183.out 9
              have hfz72_10 := blk_frozen BK183.out 10
              have hfz72_11 := blk_frozen BK183.out 11
              have hfz72_12 := blk_frozen BK183.out 12
              try go_wp2
              go_loopg [4, 61] k (fun kq v4 v61 w' => ∃ (x4_1 : ByteArray) (x61_1 : Int), v4 = .string x4_1 ∧ v61 = .int .i64 x61_1 ∧ Aside0 (hushref16_Pack.l0 kq x4_1 l0_10 (l0_10.length : Int) x61_1 a0_0 a0_1 a0_2 a0_3 a0_4 a0_5 a0_6 a0_7 a0_8 a0_9 l0_10 a0_11 a0_12 = some (r1, r2)) ∧ Aside0 (kq ≤ k) ∧ Aside0 (w'.heap[gb183]? = some (.cells #[.int .i64 a0_0, .string a0_1, .int .i64 a0_2, .string a0_3, .string a0_4, .int .i64 a0_5, .int .i64 a0_6, .int .i64 a0_7, .int .i64 a0_8, .int .i64 a0_9, (.slice A0_10 l0_10.length c0_10), .int .i64 a0_11, .int .i64 a0_12] 40 (0, 0))) ∧ Aside0 (Below w.heap.size w w'))
              case atStart => exact ⟨(((((strOfNums y185) ++ t188) ++ t189) ++ t195) ++ t196), (0), (by first | rfl | (simp; done) | (simp [*]; done)), (by first | rfl | (simp; done) | (simp [*]; done)), H', ⟨Nat.le_refl _⟩, ⟨by (with_reducible repeat (first | refine blk_drewN ?_ _ | refine blk_drew ?_ | refine blk_alloc ?_ _)); exact BK183.out⟩, ⟨by repeat (first | (with_reducible first | exact HB.out | apply below_alloc | apply pw_below_drewN | apply below_drew1 | refine below_set ?_ GE183.out) | exact HB.out)⟩⟩
              case round =>
                clear H'
                try clear c2
                try clear p2
                try clear c3
                try clear hcv6
                try clear c29
                try clear c30
                try clear c32
                try clear hcv65
                try clear hcv66
                try clear hcv67
                try clear hcz68_0
                try clear hcz68_1
                try clear hcz68_10
                try clear hcz68_11
                try clear hcz68_12
                try clear hcz68_2
                try clear hcz68_3
                try clear hcz68_4
                try clear hcz68_5
                try clear hcz68_6
                try clear hcz68_7
                try clear hcz68_8
                try clear hcz68_9
                try clear hcz72_0
                try clear hcz72_1
                try clear hcz72_10
                try clear hcz72_11
                try clear hcz72_12
                try clear hcz72_2
                try clear hcz72_3
                try clear hcz72_4
                try clear hcz72_5
                try clear hcz72_6
                try clear hcz72_7
                try clear hcz72_8
                try clear hcz72_9
                try clear hfz68_0
                try clear hfz68_1
                try clear hfz68_10
                try clear hfz68_11
                try clear hfz68_12
                try clear hfz68_2
                try clear hfz68_3
                try clear hfz68_4
                try clear hfz68_5
                try clear hfz68_6
                try clear hfz68_7
                try clear hfz68_8
                try clear hfz68_9
                try clear hfz72_0
                try clear hfz72_1
                try clear hfz72_10
                try clear hfz72_11
                try clear hfz72_12
                try clear hfz72_2
                try clear hfz72_3
                try clear hfz72_4
                try clear hfz72_5
                try clear hfz72_6
                try clear hfz72_7
                try clear hfz72_8
                try clear hfz72_9
                obtain ⟨x4_1, x61_1, rfl, rfl, HA, HK1, BK183, HB⟩ := hrel
                cases gk with
                | zero => exact absurd HA.out (by simp [hushref16_Pack.l0])
                | succ k1 =>
                  have H := HA.out
                  clear HA
                  simp only [hushref16_Pack.l0] at H
                  by_cases c73 : x61_1 < (l0_10.length : Int)
                  · rw [if_pos c73] at H
                    have c73b0 : decide (x61_1 < (l0_10.length : Int)) = true := decide_eq_true c73
                    clear c73
                    by_cases c74 : 0 ≤ x61_1
                    · rw [if_pos c74] at H
                      have c74b0 : decide (0 ≤ x61_1) = true := decide_eq_true c74
                      clear c74
                      by_cases c75 : x61_1 < (l0_10.length : Int)
                      · rw [if_pos c75] at H
                        have c75b0 : decide (x61_1 < (l0_10.length : Int)) = true := decide_eq_true c75
                        clear c75
                        replace H := Option.bind_eq_some_iff.mp H
                        obtain ⟨t198, A760, H⟩ := H
                        replace H : (if x4_1.size + t198.size ≤ 9223372036854775807 then (hushref16_Pack.l0 k1 (x4_1 ++ t198) l0_10 (l0_10.length : Int) (wrap64 (x61_1 + 1)) a0_0 a0_1 a0_2 a0_3 a0_4 a0_5 a0_6 a0_7 a0_8 a0_9 l0_10 a0_11 a0_12) else (none)) = some (r1, r2) := H
                        have A76 := Aside0.mk A760
                        clear A760
                        by_cases c77 : x4_1.size + t198.size ≤ 9223372036854775807
                        · rw [if_pos c77] at H
                          have c77b0 := eq_true c77
                          have c77b1 : decide (x4_1.size + t198.size ≤ 9223372036854775807) = true := decide_eq_true c77
                          try have c77b2 : (9223372036854775807 < x4_1.size + t198.size) = False := eq_false (Nat.not_lt.2 c77)
                          have H' := Aside0.mk H
                          clear H
                          have p197 : 0 ≤ (x61_1 : Int) := of_decide_eq_true (by first | (with_reducible assumption) | assumption)
                          have q197 : x61_1 < (l0_10.length : Int) := of_decide_eq_true (by first | (with_reducible assumption) | assumption)
                          obtain ⟨ad197, e197, hx197_0⟩ := Kd.at_int HR0_10.out x61_1 p197 q197
                          cases e197
                          replace hx197_0 := (HB.out.cell (World.block_lt_of_cell? w _ hx197_0)).trans hx197_0
                          replace p197 := eq_true p197
                          replace q197 := eq_true q197
                          go_wp2_with (first | ((with_reducible refine gate_callee (f := 30) rfl ?_); refine goesL_ (some 67) rfl rfl Try.func30 (by kernel_rfl) rfl #[.int .i64 (rd l0_10 x61_1)] rfl (by (try simp only [List.map_toArray, List.map_cons, List.map_nil]); first | done | rfl | (simp only [List.length_drop, List.length_take]; rfl)) ?_; (with_reducible refine (hushref16_Number.calls k1 (rd l0_10 x61_1) t198 _ A76.out).mono ?_); rintro e w78 ⟨rfl, hb⟩; refine ⟨_, rfl, ?_⟩; have n0_ := Aside0.mk (blk_below (g := gb183) (o := .cells #[.int .i64 a0_0, .string a0_1, .int .i64 a0_2, .string a0_3, .string a0_4, .int .i64 a0_5, .int .i64 a0_6, .int .i64 a0_7, .int .i64 a0_8, .int .i64 a0_9, .slice (some ad197) l0_10.length c0_10, .int .i64 a0_11, .int .i64 a0_12] 40 (0, 0)) (by (with_reducible repeat (first | refine blk_drewN ?_ _ | refine blk_drew ?_ | refine blk_alloc ?_ _)); exact BK183.out) hb); have n1_ := Aside0.mk (below_step (by repeat (first | (with_reducible first | exact HB.out | apply below_alloc | apply pw_below_drewN | apply below_drew1 | refine below_set ?_ GE183.out) | exact HB.out)) hb); clear BK183; clear HB; have BK183 := n0_; have HB := n1_; clear n0_ n1_; (try clear hb); (try clear hb2); (try clear hk); (try clear hi)))
                          go_roundg k1
                          case measure => have := HK1.out; omega
                          case rel => exact ⟨(x4_1 ++ t198), (wrap64 (x61_1 + 1)), (by first | rfl | (simp; done) | (simp [*]; done)), (by first | rfl | (simp; done) | (simp [*]; done)), H', ⟨by have := HK1.out; omega⟩, ⟨by (with_reducible repeat (first | refine blk_drewN ?_ _ | refine blk_drew ?_ | refine blk_alloc ?_ _)); exact BK183.out⟩, ⟨by repeat (first | (with_reducible first | exact HB.out | apply below_alloc | apply pw_below_drewN | apply below_drew1 | refine below_set ?_ GE183.out) | exact HB.out)⟩⟩
                        · rw [if_neg c77] at H
                          exact absurd H (by simp)
                      · rw [if_neg c75] at H
                        exact absurd H (by simp)
                    · rw [if_neg c74] at H
                      exact absurd H (by simp)
                  · rw [if_neg c73] at H
                    have c73b0 : decide (x61_1 < (l0_10.length : Int)) = false := decide_eq_false c73
                    clear c73
                    replace H := Option.bind_eq_some_iff.mp H
                    obtain ⟨t199, A790, H⟩ := H
                    replace H : (if x4_1.size + t199.size ≤ 9223372036854775807 then (if ((x4_1 ++ t199).size : Int) > 65536 then (some ((⟨#[]⟩ : ByteArray), 4)) else (some (x4_1 ++ t199, 0))) else (none)) = some (r1, r2) := H
                    have A79 := Aside0.mk A790
                    clear A790
                    by_cases c80 : x4_1.size + t199.size ≤ 9223372036854775807
                    · rw [if_pos c80] at H
                      have c80b0 := eq_true c80
                      have c80b1 : decide (x4_1.size + t199.size ≤ 9223372036854775807) = true := decide_eq_true c80
                      try have c80b2 : (9223372036854775807 < x4_1.size + t199.size) = False := eq_false (Nat.not_lt.2 c80)
                      by_cases c81 : ((x4_1 ++ t199).size : Int) > 65536
                      · rw [if_pos c81] at H
                        have c81b0 : decide (65536 < ((x4_1 ++ t199).size : Int)) = true := decide_eq_true c81
                        try (have c81b5 := c81b0; simp only [ByteArray.size_append, Int.natCast_add] at c81b5)
                        have c81b1 : decide (65536 < (x4_1 ++ t199).size) = true := decide_eq_true (by omega)
                        try (have c81b6 := c81b1; simp only [ByteArray.size_append] at c81b6)
                        clear c81
                        simp only [Option.some.injEq, Prod.mk.injEq] at H
                        obtain ⟨rfl, rfl⟩ := H
                        have hcz82_0 : wr.cell? ⟨gb183, 0, none⟩ = some (.int .i64 a0_0) := (blk_cell BK183.out 0).trans rfl
                        have hcz82_1 : wr.cell? ⟨gb183, 1, none⟩ = some (.string a0_1) := (blk_cell BK183.out 1).trans rfl
                        have hcz82_2 : wr.cell? ⟨gb183, 2, none⟩ = some (.int .i64 a0_2) := (blk_cell BK183.out 2).trans rfl
                        have hcz82_3 : wr.cell? ⟨gb183, 3, none⟩ = some (.string a0_3) := (blk_cell BK183.out 3).trans rfl
                        have hcz82_4 : wr.cell? ⟨gb183, 4, none⟩ = some (.string a0_4) := (blk_cell BK183.out 4).trans rfl
                        have hcz82_5 : wr.cell? ⟨gb183, 5, none⟩ = some (.int .i64 a0_5) := (blk_cell BK183.out 5).trans rfl
                        have hcz82_6 : wr.cell? ⟨gb183, 6, none⟩ = some (.int .i64 a0_6) := (blk_cell BK183.out 6).trans rfl
                        have hcz82_7 : wr.cell? ⟨gb183, 7, none⟩ = some (.int .i64 a0_7) := (blk_cell BK183.out 7).trans rfl
                        have hcz82_8 : wr.cell? ⟨gb183, 8, none⟩ = some (.int .i64 a0_8) := (blk_cell BK183.out 8).trans rfl
                        have hcz82_9 : wr.cell? ⟨gb183, 9, none⟩ = some (.int .i64 a0_9) := (blk_cell BK183.out 9).trans rfl
                        have hcz82_10 : wr.cell? ⟨gb183, 10, none⟩ = some (.slice A0_10 l0_10.length c0_10) := (blk_cell BK183.out 10).trans rfl
                        have hcz82_11 : wr.cell? ⟨gb183, 11, none⟩ = some (.int .i64 a0_11) := (blk_cell BK183.out 11).trans rfl
                        have hcz82_12 : wr.cell? ⟨gb183, 12, none⟩ = some (.int .i64 a0_12) := (blk_cell BK183.out 12).trans rfl
                        have hfz82_0 := blk_frozen BK183.out 0
                        have hfz82_1 := blk_frozen BK183.out 1
                        have hfz82_2 := blk_frozen BK183.out 2
                        have hfz82_3 := blk_frozen BK183.out 3
                        have hfz82_4 := blk_frozen BK183.out 4
                        have hfz82_5 := blk_frozen BK183.out 5
                        have hfz82_6 := blk_frozen BK183.out 6
                        have hfz82_7 := blk_frozen BK183.out 7
                        have hfz82_8 := blk_frozen BK183.out 8
                        have hfz82_9 := blk_frozen BK183.out 9
                        have hfz82_10 := blk_frozen BK183.out 10
                        have hfz82_11 := blk_frozen BK183.out 11
                        have hfz82_12 := blk_frozen BK183.out 12
                        go_wp2_with (first | ((with_reducible refine gate_callee (f := 31) rfl ?_); refine goesL_ (some 73) rfl rfl Try.func31 (by kernel_rfl) rfl #[.agg #[.int .i64 a0_11, .int .i64 a0_12]] rfl (by (try simp only [List.map_toArray, List.map_cons, List.map_nil]); first | done | rfl | (simp only [List.length_drop, List.length_take]; rfl)) ?_; (with_reducible refine (hushref16_ratio.calls k1 a0_11 a0_12 t199 _ A79.out).mono ?_); rintro e w83 ⟨rfl, hb⟩; refine ⟨_, rfl, ?_⟩; have n0_ := Aside0.mk (blk_below (g := gb183) (o := .cells #[.int .i64 a0_0, .string a0_1, .int .i64 a0_2, .string a0_3, .string a0_4, .int .i64 a0_5, .int .i64 a0_6, .int .i64 a0_7, .int .i64 a0_8, .int .i64 a0_9, .slice A0_10 l0_10.length c0_10, .int .i64 a0_11, .int .i64 a0_12] 40 (0, 0)) (by (with_reducible repeat (first | refine blk_drewN ?_ _ | refine blk_drew ?_ | refine blk_alloc ?_ _)); exact BK183.out) hb); have n1_ := Aside0.mk (below_step (by repeat (first | (with_reducible first | exact HB.out | apply below_alloc | apply pw_below_drewN | apply below_drew1 | refine below_set ?_ GE183.out) | exact HB.out)) hb); clear BK183; clear HB; have BK183 := n0_; have HB := n1_; clear n0_ n1_; (try clear hb); (try clear hb2); (try clear hk); (try clear hi)))
                        go_ret2
                        exact ⟨by first | rfl | (simp [errW_none, errW_some] <;> rfl) | (simp [*, errW_none, errW_some] <;> rfl), by repeat (first | (with_reducible first | exact HB.out | apply below_alloc | apply pw_below_drewN | apply below_drew1 | refine below_set ?_ GE183.out) | exact HB.out)⟩
                      · rw [if_neg c81] at H
                        have c81b0 : decide (65536 < ((x4_1 ++ t199).size : Int)) = false := decide_eq_false c81
                        try (have c81b5 := c81b0; simp only [ByteArray.size_append, Int.natCast_add] at c81b5)
                        have c81b1 : decide (65536 < (x4_1 ++ t199).size) = false := decide_eq_false (by omega)
                        try (have c81b6 := c81b1; simp only [ByteArray.size_append] at c81b6)
                        clear c81
                        simp only [Option.some.injEq, Prod.mk.injEq] at H
                        obtain ⟨rfl, rfl⟩ := H
                        have hcz84_0 : wr.cell? ⟨gb183, 0, none⟩ = some (.int .i64 a0_0) := (blk_cell BK183.out 0).trans rfl
                        have hcz84_1 : wr.cell? ⟨gb183, 1, none⟩ = some (.string a0_1) := (blk_cell BK183.out 1).trans rfl
                        have hcz84_2 : wr.cell? ⟨gb183, 2, none⟩ = some (.int .i64 a0_2) := (blk_cell BK183.out 2).trans rfl
                        have hcz84_3 : wr.cell? ⟨gb183, 3, none⟩ = some (.string a0_3) := (blk_cell BK183.out 3).trans rfl
                        have hcz84_4 : wr.cell? ⟨gb183, 4, none⟩ = some (.string a0_4) := (blk_cell BK183.out 4).trans rfl
                        have hcz84_5 : wr.cell? ⟨gb183, 5, none⟩ = some (.int .i64 a0_5) := (blk_cell BK183.out 5).trans rfl
                        have hcz84_6 : wr.cell? ⟨gb183, 6, none⟩ = some (.int .i64 a0_6) := (blk_cell BK183.out 6).trans rfl
                        have hcz84_7 : wr.cell? ⟨gb183, 7, none⟩ = some (.int .i64 a0_7) := (blk_cell BK183.out 7).trans rfl
                        have hcz84_8 : wr.cell? ⟨gb183, 8, none⟩ = some (.int .i64 a0_8) := (blk_cell BK183.out 8).trans rfl
                        have hcz84_9 : wr.cell? ⟨gb183, 9, none⟩ = some (.int .i64 a0_9) := (blk_cell BK183.out 9).trans rfl
                        have hcz84_10 : wr.cell? ⟨gb183, 10, none⟩ = some (.slice A0_10 l0_10.length c0_10) := (blk_cell BK183.out 10).trans rfl
                        have hcz84_11 : wr.cell? ⟨gb183, 11, none⟩ = some (.int .i64 a0_11) := (blk_cell BK183.out 11).trans rfl
                        have hcz84_12 : wr.cell? ⟨gb183, 12, none⟩ = some (.int .i64 a0_12) := (blk_cell BK183.out 12).trans rfl
                        have hfz84_0 := blk_frozen BK183.out 0
                        have hfz84_1 := blk_frozen BK183.out 1
                        have hfz84_2 := blk_frozen BK183.out 2
                        have hfz84_3 := blk_frozen BK183.out 3
                        have hfz84_4 := blk_frozen BK183.out 4
                        have hfz84_5 := blk_frozen BK183.out 5
                        have hfz84_6 := blk_frozen BK183.out 6
                        have hfz84_7 := blk_frozen BK183.out 7
                        have hfz84_8 := blk_frozen BK183.out 8
                        have hfz84_9 := blk_frozen BK183.out 9
                        have hfz84_10 := blk_frozen BK183.out 10
                        have hfz84_11 := blk_frozen BK183.out 11
                        have hfz84_12 := blk_frozen BK183.out 12
                        go_wp2_with (first | ((with_reducible refine gate_callee (f := 31) rfl ?_); refine goesL_ (some 73) rfl rfl Try.func31 (by kernel_rfl) rfl #[.agg #[.int .i64 a0_11, .int .i64 a0_12]] rfl (by (try simp only [List.map_toArray, List.map_cons, List.map_nil]); first | done | rfl | (simp only [List.length_drop, List.length_take]; rfl)) ?_; (with_reducible refine (hushref16_ratio.calls k1 a0_11 a0_12 t199 _ A79.out).mono ?_); rintro e w85 ⟨rfl, hb⟩; refine ⟨_, rfl, ?_⟩; have n0_ := Aside0.mk (blk_below (g := gb183) (o := .cells #[.int .i64 a0_0, .string a0_1, .int .i64 a0_2, .string a0_3, .string a0_4, .int .i64 a0_5, .int .i64 a0_6, .int .i64 a0_7, .int .i64 a0_8, .int .i64 a0_9, .slice A0_10 l0_10.length c0_10, .int .i64 a0_11, .int .i64 a0_12] 40 (0, 0)) (by (with_reducible repeat (first | refine blk_drewN ?_ _ | refine blk_drew ?_ | refine blk_alloc ?_ _)); exact BK183.out) hb); have n1_ := Aside0.mk (below_step (by repeat (first | (with_reducible first | exact HB.out | apply below_alloc | apply pw_below_drewN | apply below_drew1 | refine below_set ?_ GE183.out) | exact HB.out)) hb); clear BK183; clear HB; have BK183 := n0_; have HB := n1_; clear n0_ n1_; (try clear hb); (try clear hb2); (try clear hk); (try clear hi)))
                        go_ret2
                        exact ⟨by first | rfl | (simp [errW_none, errW_some] <;> rfl) | (simp [*, errW_none, errW_some] <;> rfl), by repeat (first | (with_reducible first | exact HB.out | apply below_alloc | apply pw_below_drewN | apply below_drew1 | refine below_set ?_ GE183.out) | exact HB.out)⟩
                    · rw [if_neg c80] at H
                      exact absurd H (by simp)
            · rw [if_neg c57] at H
              exact absurd H (by simp)
          · rw [if_neg c55] at H
            exact absurd H (by simp)
      · rw [if_neg c7] at H
        exact absurd H (by simp)
    · rw [if_neg c5] at H
      exact absurd H (by simp)
  · replace c3 := Bool.eq_false_iff.mpr c3
    subst c3
    have H1 : (some ((⟨#[]⟩ : ByteArray), 2)) = some (r1, r2) := by rw [if_neg (show ¬ (false = true) by decide)] at H; exact H
    clear H
    have H := H1
    clear H1
    simp only [Option.some.injEq, Prod.mk.injEq] at H
    obtain ⟨rfl, rfl⟩ := H
    go_enter Try.func13, Try.ntmps13
    go_wp2_with (first | ((with_reducible refine gate_dst (N := 1) rfl ?_); refine box_event ?hg (N := 1) ?hd (cs := #[.int .i64 a0_0, .string a0_1, .int .i64 a0_2, .string a0_3, .string a0_4, .int .i64 a0_5, .int .i64 a0_6, .int .i64 a0_7, .int .i64 a0_8, .int .i64 a0_9, .slice A0_10 l0_10.length c0_10, .int .i64 a0_11, .int .i64 a0_12]) (t := 40) ?hr ?_; (case hd => rfl); (case hg => rfl); (case hr => first | (go_simp; done) | (go_simp; rfl)); intro gb183 hg w86 hbox hb; have n0_ := Aside0.mk (below_step (by repeat (first | (with_reducible first | exact HB.out | apply below_alloc | apply pw_below_drewN | apply below_drew1) | exact HB.out)) hb); have n1_ := Aside0.mk (hbox); have n2_ := Aside0.mk ((by rw [hg]; exact (below_size (by repeat (first | (with_reducible first | exact HB.out | apply below_alloc | apply pw_below_drewN | apply below_drew1) | exact HB.out))) : w.heap.size ≤ gb183)); have n3_ := Aside0.mk ((by rw [hg]; exact (below_size (by repeat (first | (with_reducible first | exact HB.out | apply below_alloc | apply pw_below_drewN | apply below_drew1) | exact HB.out))) : w.heap.size ≤ gb183)); clear HB; have HB := n0_; have BK183 := n1_; have GW183 := n2_; have GE183 := n3_; clear n0_ n1_ n2_ n3_; clear hb hbox hg; have hcz87_0 : w86.cell? ⟨gb183, 0, none⟩ = some (.int .i64 a0_0) := (blk_cell BK183.out 0).trans rfl; have hcz87_1 : w86.cell? ⟨gb183, 1, none⟩ = some (.string a0_1) := (blk_cell BK183.out 1).trans rfl; have hcz87_2 : w86.cell? ⟨gb183, 2, none⟩ = some (.int .i64 a0_2) := (blk_cell BK183.out 2).trans rfl; have hcz87_3 : w86.cell? ⟨gb183, 3, none⟩ = some (.string a0_3) := (blk_cell BK183.out 3).trans rfl; have hcz87_4 : w86.cell? ⟨gb183, 4, none⟩ = some (.string a0_4) := (blk_cell BK183.out 4).trans rfl; have hcz87_5 : w86.cell? ⟨gb183, 5, none⟩ = some (.int .i64 a0_5) := (blk_cell BK183.out 5).trans rfl; have hcz87_6 : w86.cell? ⟨gb183, 6, none⟩ = some (.int .i64 a0_6) := (blk_cell BK183.out 6).trans rfl; have hcz87_7 : w86.cell? ⟨gb183, 7, none⟩ = some (.int .i64 a0_7) := (blk_cell BK183.out 7).trans rfl; have hcz87_8 : w86.cell? ⟨gb183, 8, none⟩ = some (.int .i64 a0_8) := (blk_cell BK183.out 8).trans rfl; have hcz87_9 : w86.cell? ⟨gb183, 9, none⟩ = some (.int .i64 a0_9) := (blk_cell BK183.out 9).trans rfl; have hcz87_10 : w86.cell? ⟨gb183, 10, none⟩ = some (.slice A0_10 l0_10.length c0_10) := (blk_cell BK183.out 10).trans rfl; have hcz87_11 : w86.cell? ⟨gb183, 11, none⟩ = some (.int .i64 a0_11) := (blk_cell BK183.out 11).trans rfl; have hcz87_12 : w86.cell? ⟨gb183, 12, none⟩ = some (.int .i64 a0_12) := (blk_cell BK183.out 12).trans rfl; have hfz87_0 := blk_frozen BK183.out 0; have hfz87_1 := blk_frozen BK183.out 1; have hfz87_2 := blk_frozen BK183.out 2; have hfz87_3 := blk_frozen BK183.out 3; have hfz87_4 := blk_frozen BK183.out 4; have hfz87_5 := blk_frozen BK183.out 5; have hfz87_6 := blk_frozen BK183.out 6; have hfz87_7 := blk_frozen BK183.out 7; have hfz87_8 := blk_frozen BK183.out 8; have hfz87_9 := blk_frozen BK183.out 9; have hfz87_10 := blk_frozen BK183.out 10; have hfz87_11 := blk_frozen BK183.out 11; have hfz87_12 := blk_frozen BK183.out 12) | ((with_reducible refine gate_callee (f := 28) rfl ?_); refine goesL_ (some 8) rfl rfl Try.func28 (by kernel_rfl) rfl #[.agg #[.int .i64 a0_0, .string a0_1, .int .i64 a0_2, .string a0_3, .string a0_4, .int .i64 a0_5, .int .i64 a0_6, .int .i64 a0_7, .int .i64 a0_8, .int .i64 a0_9, .slice A0_10 l0_10.length c0_10, .int .i64 a0_11, .int .i64 a0_12]] rfl (by (try simp only [List.map_toArray, List.map_cons, List.map_nil]); first | done | rfl | (simp only [List.length_drop, List.length_take]; rfl)) ?_; (with_reducible refine (hushref16_Clean.calls a0_0 a0_1 a0_2 a0_3 a0_4 a0_5 a0_6 a0_7 a0_8 a0_9 _ _ l0_10 a0_11 a0_12 false _ ?side1 ?side2 A2.out).mono ?_); (case side1 => repeat (first | exact (Kd.C_below HR0_10.out HB.out) | (with_reducible refine Kd.C_alloc ?_ _) | (with_reducible refine Kd.C_drewN ?_ _) | (with_reducible refine Kd.C_drew ?_))); (case side2 => exact HC0_10.out); rintro e w88 ⟨rfl, hb⟩; refine ⟨_, rfl, ?_⟩; have n0_ := Aside0.mk (blk_below (g := gb183) (o := .cells #[.int .i64 a0_0, .string a0_1, .int .i64 a0_2, .string a0_3, .string a0_4, .int .i64 a0_5, .int .i64 a0_6, .int .i64 a0_7, .int .i64 a0_8, .int .i64 a0_9, .slice A0_10 l0_10.length c0_10, .int .i64 a0_11, .int .i64 a0_12] 40 (0, 0)) (by (with_reducible repeat (first | refine blk_drewN ?_ _ | refine blk_drew ?_ | refine blk_alloc ?_ _)); exact BK183.out) hb); have n1_ := Aside0.mk (below_step (by repeat (first | (with_reducible first | exact HB.out | apply below_alloc | apply pw_below_drewN | apply below_drew1 | refine below_set ?_ GE183.out) | exact HB.out)) hb); clear BK183; clear HB; have BK183 := n0_; have HB := n1_; clear n0_ n1_; (try clear hb); (try clear hb2); (try clear hk); (try clear hi)))
    go_ret2
    exact ⟨by first | rfl | (simp [errW_none, errW_some] <;> rfl) | (simp [*, errW_none, errW_some] <;> rfl), by repeat (first | (with_reducible first | exact HB.out | apply below_alloc | apply pw_below_drewN | apply below_drew1 | refine below_set ?_ GE183.out) | exact HB.out)⟩


end Go.Proofs.Ytdfeidpkdbleaaa.PC

/- Functions of the translated program as Lean functions, and what their calls come to: written by this session's own program (wip/xprint.py) over the kit's print. Conditions stand in each theorem. -/
import Derived.Test.YtdfeidpkdbleaaaPCx0
import Derived.Test.YtdfeidpkdbleaaaPCx11
import Derived.Test.YtdfeidpkdbleaaaPCx12
namespace Go.Proofs.Ytdfeidpkdbleaaa.PC
open Go.RowKit Go.Proofs.YtdfeidpkdbleaaaW.PrintWords Go.Proofs.YtdfeidpkdbleaaaW.PrintLast Go.Proofs.YtdfeidpkdbleaaaW.PrintMore
attribute [local go_sem] max2_int min2_int max_two min_two max_three min_three max_four min_four   -- for this text's walks alone
set_option linter.unusedVariables false
set_option linter.unusedSimpArgs false

/-! ### hushref16_Pack: function 13 -/
def hushref16_Pack.l0 : Nat → ByteArray → List Int → Int → Int → Int → ByteArray → Int → ByteArray → ByteArray → Int → Int → Int → Int → Int → List Int → Int → Int → Option (ByteArray × Int)
  | 0, _, _, _, _, _, _, _, _, _, _, _, _, _, _, _, _, _ => none
  | k + 1, x4, x59, x60, x61, x184000, x184001, x184002, x184003, x184004, x184005, x184006, x184007, x184008, x184009, x184010, x184011, x184012 => if x61 < x60 then (if 0 ≤ x61 then (if x61 < (x59.length : Int) then ((hushref16_Number.f k (rd x59 x61)).bind fun t198 => (if x4.size + t198.size ≤ 9223372036854775807 then (hushref16_Pack.l0 k (x4 ++ t198) x59 x60 (wrap64 (x61 + 1)) x184000 x184001 x184002 x184003 x184004 x184005 x184006 x184007 x184008 x184009 x184010 x184011 x184012) else (none))) else (none)) else (none)) else ((hushref16_ratio.f k x184011 x184012).bind fun t199 => (if x4.size + t199.size ≤ 9223372036854775807 then (if ((x4 ++ t199).size : Int) > 65536 then (some ((⟨#[]⟩ : ByteArray), 4)) else (some (x4 ++ t199, 0))) else (none)))
def hushref16_Pack.f (k : Nat) (a0_0 : Int) (a0_1 : ByteArray) (a0_2 : Int) (a0_3 : ByteArray) (a0_4 : ByteArray) (a0_5 : Int) (a0_6 : Int) (a0_7 : Int) (a0_8 : Int) (a0_9 : Int) (l0_10 : List Int) (a0_11 : Int) (a0_12 : Int) : Option (ByteArray × Int) := (hushref16_Clean.f a0_0 a0_1 a0_2 a0_3 a0_4 a0_5 a0_6 a0_7 a0_8 a0_9 l0_10 a0_11 a0_12).bind fun t184 => (if t184 = true then ((some (([(a0_0) % 256] : List Int) : List Int)).bind fun y185 => ((hushref16_text.f k a0_1).bind fun t188 => (if (strOfNums y185).size + t188.size ≤ 9223372036854775807 then ((hushref16_Number.f k a0_2).bind fun t189 => (if ((strOfNums y185) ++ t188).size + t189.size ≤ 9223372036854775807 then (if a0_0 = 1 then ((hushref16_text.f k a0_3).bind fun t190 => (if (((strOfNums y185) ++ t188) ++ t189).size + t190.size ≤ 9223372036854775807 then ((hushref16_text.f k a0_4).bind fun t191 => (if ((((strOfNums y185) ++ t188) ++ t189) ++ t190).size + t191.size ≤ 9223372036854775807 then ((hushref16_ratio.f k a0_5 a0_6).bind fun t192 => (if (((((strOfNums y185) ++ t188) ++ t189) ++ t190) ++ t191).size + t192.size ≤ 9223372036854775807 then ((hushref16_Number.f k a0_7).bind fun t193 => (if ((((((strOfNums y185) ++ t188) ++ t189) ++ t190) ++ t191) ++ t192).size + t193.size ≤ 9223372036854775807 then ((hushref16_Number.f k a0_8).bind fun t194 => (if (((((((strOfNums y185) ++ t188) ++ t189) ++ t190) ++ t191) ++ t192) ++ t193).size + t194.size ≤ 9223372036854775807 then (if (((((((((strOfNums y185) ++ t188) ++ t189) ++ t190) ++ t191) ++ t192) ++ t193) ++ t194).size : Int) > 65536 then (some ((⟨#[]⟩ : ByteArray), 4)) else (some ((((((((strOfNums y185) ++ t188) ++ t189) ++ t190) ++ t191) ++ t192) ++ t193) ++ t194, 0))) else (none))) else (none))) else (none))) else (none))) else (none))) else ((hushref16_Number.f k a0_9).bind fun t195 => (if (((strOfNums y185) ++ t188) ++ t189).size + t195.size ≤ 9223372036854775807 then ((hushref16_Count.f k (IntKind.u64.wrap ((l0_10.length : Int)))).bind fun t196 => (if ((((strOfNums y185) ++ t188) ++ t189) ++ t195).size + t196.size ≤ 9223372036854775807 then (hushref16_Pack.l0 k (((((strOfNums y185) ++ t188) ++ t189) ++ t195) ++ t196) l0_10 (l0_10.length : Int) 0 a0_0 a0_1 a0_2 a0_3 a0_4 a0_5 a0_6 a0_7 a0_8 a0_9 l0_10 a0_11 a0_12) else (none))) else (none)))) else (none))) else (none)))) else (some ((⟨#[]⟩ : ByteArray), 2)))
theorem hushref16_Pack.mono_l : ∀ k, (∀ y0 y1 y2 y3 y4 y5 y6 y7 y8 y9 y10 y11 y12 y13 y14 y15 y16, LeO (hushref16_Pack.l0 k y0 y1 y2 y3 y4 y5 y6 y7 y8 y9 y10 y11 y12 y13 y14 y15 y16) (hushref16_Pack.l0 (k + 1) y0 y1 y2 y3 y4 y5 y6 y7 y8 y9 y10 y11 y12 y13 y14 y15 y16))
  | 0 => fun _ _ _ _ _ _ _ _ _ _ _ _ _ _ _ _ _ r h => by simp [hushref16_Pack.l0] at h
  | k + 1 => by
    have ih0 := hushref16_Pack.mono_l k
    · intro y0 y1 y2 y3 y4 y5 y6 y7 y8 y9 y10 y11 y12 y13 y14 y15 y16
      unfold hushref16_Pack.l0
      repeat' first
      | (with_reducible exact ih0 _ _ _ _ _ _ _ _ _ _ _ _ _ _ _ _ _)
      | (with_reducible exact hushref16_Count.mono _ _)
      | (with_reducible exact hushref16_Number.mono _ _)
      | (with_reducible exact hushref16_ratio.mono _ _ _)
      | (with_reducible exact hushref16_text.mono _ _)
      | (with_reducible exact LeO.refl _)
      | (with_reducible exact LeO.none _)
      | (with_reducible refine LeO.ite ?_ ?_)
      | (with_reducible refine LeO.bind ?_ (fun _ => ?_))
      | exact ih0 _ _ _ _ _ _ _ _ _ _ _ _ _ _ _ _ _
      | exact hushref16_Count.mono _ _
      | exact hushref16_Number.mono _ _
      | exact hushref16_ratio.mono _ _ _
      | exact hushref16_text.mono _ _
      | exact LeO.none _
      | refine LeO.ite ?_ ?_
      | refine LeO.bind ?_ (fun _ => ?_)
theorem hushref16_Pack.mono : ∀ a0 a1 a2 a3 a4 a5 a6 a7 a8 a9 a10 a11 a12 k, LeO (hushref16_Pack.f k a0 a1 a2 a3 a4 a5 a6 a7 a8 a9 a10 a11 a12) (hushref16_Pack.f (k + 1) a0 a1 a2 a3 a4 a5 a6 a7 a8 a9 a10 a11 a12) := by
  intro a0 a1 a2 a3 a4 a5 a6 a7 a8 a9 a10 a11 a12 k
  have ih0 := hushref16_Pack.mono_l k
  unfold hushref16_Pack.f
  repeat' first
      | (with_reducible exact ih0 _ _ _ _ _ _ _ _ _ _ _ _ _ _ _ _ _)
      | (with_reducible exact hushref16_Count.mono _ _)
      | (with_reducible exact hushref16_Number.mono _ _)
      | (with_reducible exact hushref16_ratio.mono _ _ _)
      | (with_reducible exact hushref16_text.mono _ _)
      | (with_reducible exact LeO.refl _)
      | (with_reducible exact LeO.none _)
      | (with_reducible refine LeO.ite ?_ ?_)
      | (with_reducible refine LeO.bind ?_ (fun _ => ?_))
      | exact ih0 _ _ _ _ _ _ _ _ _ _ _ _ _ _ _ _ _
      | exact hushref16_Count.mono _ _
      | exact hushref16_Number.mono _ _
      | exact hushref16_ratio.mono _ _ _
      | exact hushref16_text.mono _ _
      | exact LeO.none _
      | refine LeO.ite ?_ ?_
      | refine LeO.bind ?_ (fun _ => ?_)
def hushref16_Pack.T3 : Bool × List (List Nat × List Nat) := (true, [([], []), ([0], [0]), ([1], [1]), ([2], [2]), ([3], [3]), ([], []), ([5], [5]), ([6], [6]), ([4, 7], [4, 7]), ([], []), ([9], [9]), ([10, 7], [10]), ([8, 11], [8, 11]), ([12, 11, 0, 1, 2, 3, 4, 5, 6, 7, 8, 9, 10, 11, 12], [12])])
def hushref16_Pack.B3 : List Nat := [0, 1, 3, 7, 15, 0, 32, 96, 255, 0, 512, 1760, 4095, 8191]
theorem hushref16_Pack.tab3 : rtab .any (opsOf Try.f13 3) = hushref16_Pack.T3 := by kernel_rfl
theorem hushref16_Pack.bits3 : waitsOk hushref16_Pack.T3.2 hushref16_Pack.B3 = true := by kernel_rfl
def hushref16_Pack.T5 : Bool × List (List Nat × List Nat) := (true, [([], []), ([], []), ([1], [1]), ([2], [2]), ([0, 3], [0, 3]), ([], []), ([5], [5]), ([6, 3], [6]), ([4, 7], [4, 7]), ([], []), ([9], [9]), ([10, 7], [10]), ([8, 11], [8, 11]), ([], []), ([13], [13]), ([14, 11], [14]), ([12, 15], [12, 15]), ([], []), ([17], [17]), ([18, 15], [18]), ([16, 19], [16, 19]), ([20, 19, 0, 1, 2, 3, 4, 5, 6, 7, 8, 9, 10, 11, 12, 13, 14, 15, 16, 17, 18, 19, 20], [0, 20])])
def hushref16_Pack.B5 : List Nat := [0, 0, 2, 6, 15, 0, 32, 110, 255, 0, 512, 1774, 4095, 0, 8192, 28398, 65535, 0, 131072, 454382, 1048575, 2097151]
theorem hushref16_Pack.tab5 : rtab .any (opsOf Try.f13 5) = hushref16_Pack.T5 := by kernel_rfl
theorem hushref16_Pack.bits5 : waitsOk hushref16_Pack.T5.2 hushref16_Pack.B5 = true := by kernel_rfl
def hushref16_Pack.T6 : Bool × List (List Nat × List Nat) := (true, [([], []), ([], []), ([1], [1]), ([2], [2]), ([0, 3], [0, 3]), ([], []), ([5], [5]), ([6], [6]), ([7], [7]), ([8, 3], [8]), ([4, 9], [4, 9]), ([10, 9, 0, 1, 2, 3, 4, 5, 6, 7, 8, 9, 10], [0, 10])])
def hushref16_Pack.B6 : List Nat := [0, 0, 2, 6, 15, 0, 32, 96, 224, 494, 1023, 2047]
theorem hushref16_Pack.tab6 : rtab .any (opsOf Try.f13 6) = hushref16_Pack.T6 := by kernel_rfl
theorem hushref16_Pack.bits6 : waitsOk hushref16_Pack.T6.2 hushref16_Pack.B6 = true := by kernel_rfl

end Go.Proofs.Ytdfeidpkdbleaaa.PC

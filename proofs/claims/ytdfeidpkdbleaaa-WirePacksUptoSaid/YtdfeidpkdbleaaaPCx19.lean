/- Functions of the translated program as Lean functions, and what their calls come to: written by this session's own program (wip/xprint.py) over the kit's print. Conditions stand in each theorem. -/
import Derived.Test.YtdfeidpkdbleaaaPCx0
import Derived.Test.YtdfeidpkdbleaaaPCx1
namespace Go.Proofs.Ytdfeidpkdbleaaa.PC
open Go.RowKit Go.Proofs.YtdfeidpkdbleaaaW.PrintWords Go.Proofs.YtdfeidpkdbleaaaW.PrintLast Go.Proofs.YtdfeidpkdbleaaaW.PrintMore
attribute [local go_sem] max2_int min2_int max_two min_two max_three min_three max_four min_four   -- for this text's walks alone
set_option linter.unusedVariables false
set_option linter.unusedSimpArgs false

attribute [local go_sem high] eqA38
/-! ### hushref16_Same: function 16 -/
mutual
def hushref16_Same.j0 : Nat → Bool → Int → ByteArray → Int → ByteArray → ByteArray → Int → Int → Int → Int → Int → List Int → Int → Int → Int → ByteArray → Int → ByteArray → ByteArray → Int → Int → Int → Int → Int → List Int → Int → Int → Option (Bool)
  | 0, _, _, _, _, _, _, _, _, _, _, _, _, _, _, _, _, _, _, _, _, _, _, _, _, _, _, _ => none
  | k + 1, x82, x221000, x221001, x221002, x221003, x221004, x221005, x221006, x221007, x221008, x221009, x221010, x221011, x221012, x222000, x222001, x222002, x222003, x222004, x222005, x222006, x222007, x222008, x222009, x222010, x222011, x222012 => if x82 = true then (some false) else (hushref16_Same.l0 k (x221010.length : Int) 0 x221000 x221001 x221002 x221003 x221004 x221005 x221006 x221007 x221008 x221009 x221010 x221011 x221012 x222000 x222001 x222002 x222003 x222004 x222005 x222006 x222007 x222008 x222009 x222010 x222011 x222012)
def hushref16_Same.l0 : Nat → Int → Int → Int → ByteArray → Int → ByteArray → ByteArray → Int → Int → Int → Int → Int → List Int → Int → Int → Int → ByteArray → Int → ByteArray → ByteArray → Int → Int → Int → Int → Int → List Int → Int → Int → Option (Bool)
  | 0, _, _, _, _, _, _, _, _, _, _, _, _, _, _, _, _, _, _, _, _, _, _, _, _, _, _, _, _ => none
  | k + 1, x85, x86, x221000, x221001, x221002, x221003, x221004, x221005, x221006, x221007, x221008, x221009, x221010, x221011, x221012, x222000, x222001, x222002, x222003, x222004, x222005, x222006, x222007, x222008, x222009, x222010, x222011, x222012 => if x86 < x85 then (if 0 ≤ x86 then (if x86 < (x221010.length : Int) then (if x86 < (x222010.length : Int) then (if (rd x221010 x86) = (rd x222010 x86) then (hushref16_Same.l0 k x85 (wrap64 (x86 + 1)) x221000 x221001 x221002 x221003 x221004 x221005 x221006 x221007 x221008 x221009 x221010 x221011 x221012 x222000 x222001 x222002 x222003 x222004 x222005 x222006 x222007 x222008 x222009 x222010 x222011 x222012) else (some false)) else (none)) else (none)) else (none)) else (some true)
end
def hushref16_Same.f (k : Nat) (a0_0 : Int) (a0_1 : ByteArray) (a0_2 : Int) (a0_3 : ByteArray) (a0_4 : ByteArray) (a0_5 : Int) (a0_6 : Int) (a0_7 : Int) (a0_8 : Int) (a0_9 : Int) (l0_10 : List Int) (a0_11 : Int) (a0_12 : Int) (a1_0 : Int) (a1_1 : ByteArray) (a1_2 : Int) (a1_3 : ByteArray) (a1_4 : ByteArray) (a1_5 : Int) (a1_6 : Int) (a1_7 : Int) (a1_8 : Int) (a1_9 : Int) (l1_10 : List Int) (a1_11 : Int) (a1_12 : Int) : Option (Bool) := if a0_0 = a1_0 then (if a0_1.toList = a1_1.toList then (if a0_2 = a1_2 then (if a0_3.toList = a1_3.toList then (if a0_4.toList = a1_4.toList then (if (!(a0_5 == a1_5) || (!(a0_6 == a1_6))) = true then (hushref16_Same.j0 k true a0_0 a0_1 a0_2 a0_3 a0_4 a0_5 a0_6 a0_7 a0_8 a0_9 l0_10 a0_11 a0_12 a1_0 a1_1 a1_2 a1_3 a1_4 a1_5 a1_6 a1_7 a1_8 a1_9 l1_10 a1_11 a1_12) else (if a0_7 = a1_7 then (if a0_8 = a1_8 then (if a0_9 = a1_9 then (if (!(a0_11 == a1_11) || (!(a0_12 == a1_12))) = true then (hushref16_Same.j0 k true a0_0 a0_1 a0_2 a0_3 a0_4 a0_5 a0_6 a0_7 a0_8 a0_9 l0_10 a0_11 a0_12 a1_0 a1_1 a1_2 a1_3 a1_4 a1_5 a1_6 a1_7 a1_8 a1_9 l1_10 a1_11 a1_12) else (hushref16_Same.j0 k ((l0_10.length : Int) != (l1_10.length : Int)) a0_0 a0_1 a0_2 a0_3 a0_4 a0_5 a0_6 a0_7 a0_8 a0_9 l0_10 a0_11 a0_12 a1_0 a1_1 a1_2 a1_3 a1_4 a1_5 a1_6 a1_7 a1_8 a1_9 l1_10 a1_11 a1_12)) else (hushref16_Same.j0 k true a0_0 a0_1 a0_2 a0_3 a0_4 a0_5 a0_6 a0_7 a0_8 a0_9 l0_10 a0_11 a0_12 a1_0 a1_1 a1_2 a1_3 a1_4 a1_5 a1_6 a1_7 a1_8 a1_9 l1_10 a1_11 a1_12)) else (hushref16_Same.j0 k true a0_0 a0_1 a0_2 a0_3 a0_4 a0_5 a0_6 a0_7 a0_8 a0_9 l0_10 a0_11 a0_12 a1_0 a1_1 a1_2 a1_3 a1_4 a1_5 a1_6 a1_7 a1_8 a1_9 l1_10 a1_11 a1_12)) else (hushref16_Same.j0 k true a0_0 a0_1 a0_2 a0_3 a0_4 a0_5 a0_6 a0_7 a0_8 a0_9 l0_10 a0_11 a0_12 a1_0 a1_1 a1_2 a1_3 a1_4 a1_5 a1_6 a1_7 a1_8 a1_9 l1_10 a1_11 a1_12))) else (hushref16_Same.j0 k true a0_0 a0_1 a0_2 a0_3 a0_4 a0_5 a0_6 a0_7 a0_8 a0_9 l0_10 a0_11 a0_12 a1_0 a1_1 a1_2 a1_3 a1_4 a1_5 a1_6 a1_7 a1_8 a1_9 l1_10 a1_11 a1_12)) else (hushref16_Same.j0 k true a0_0 a0_1 a0_2 a0_3 a0_4 a0_5 a0_6 a0_7 a0_8 a0_9 l0_10 a0_11 a0_12 a1_0 a1_1 a1_2 a1_3 a1_4 a1_5 a1_6 a1_7 a1_8 a1_9 l1_10 a1_11 a1_12)) else (hushref16_Same.j0 k true a0_0 a0_1 a0_2 a0_3 a0_4 a0_5 a0_6 a0_7 a0_8 a0_9 l0_10 a0_11 a0_12 a1_0 a1_1 a1_2 a1_3 a1_4 a1_5 a1_6 a1_7 a1_8 a1_9 l1_10 a1_11 a1_12)) else (hushref16_Same.j0 k true a0_0 a0_1 a0_2 a0_3 a0_4 a0_5 a0_6 a0_7 a0_8 a0_9 l0_10 a0_11 a0_12 a1_0 a1_1 a1_2 a1_3 a1_4 a1_5 a1_6 a1_7 a1_8 a1_9 l1_10 a1_11 a1_12)) else (hushref16_Same.j0 k true a0_0 a0_1 a0_2 a0_3 a0_4 a0_5 a0_6 a0_7 a0_8 a0_9 l0_10 a0_11 a0_12 a1_0 a1_1 a1_2 a1_3 a1_4 a1_5 a1_6 a1_7 a1_8 a1_9 l1_10 a1_11 a1_12)
theorem hushref16_Same.mono_l : ∀ k, (∀ y0 y1 y2 y3 y4 y5 y6 y7 y8 y9 y10 y11 y12 y13 y14 y15 y16 y17 y18 y19 y20 y21 y22 y23 y24 y25 y26, LeO (hushref16_Same.j0 k y0 y1 y2 y3 y4 y5 y6 y7 y8 y9 y10 y11 y12 y13 y14 y15 y16 y17 y18 y19 y20 y21 y22 y23 y24 y25 y26) (hushref16_Same.j0 (k + 1) y0 y1 y2 y3 y4 y5 y6 y7 y8 y9 y10 y11 y12 y13 y14 y15 y16 y17 y18 y19 y20 y21 y22 y23 y24 y25 y26)) ∧ (∀ y0 y1 y2 y3 y4 y5 y6 y7 y8 y9 y10 y11 y12 y13 y14 y15 y16 y17 y18 y19 y20 y21 y22 y23 y24 y25 y26 y27, LeO (hushref16_Same.l0 k y0 y1 y2 y3 y4 y5 y6 y7 y8 y9 y10 y11 y12 y13 y14 y15 y16 y17 y18 y19 y20 y21 y22 y23 y24 y25 y26 y27) (hushref16_Same.l0 (k + 1) y0 y1 y2 y3 y4 y5 y6 y7 y8 y9 y10 y11 y12 y13 y14 y15 y16 y17 y18 y19 y20 y21 y22 y23 y24 y25 y26 y27))
  | 0 => ⟨fun _ _ _ _ _ _ _ _ _ _ _ _ _ _ _ _ _ _ _ _ _ _ _ _ _ _ _ r h => by simp [hushref16_Same.j0] at h, fun _ _ _ _ _ _ _ _ _ _ _ _ _ _ _ _ _ _ _ _ _ _ _ _ _ _ _ _ r h => by simp [hushref16_Same.l0] at h⟩
  | k + 1 => by
    obtain ⟨ih0, ih1⟩ := hushref16_Same.mono_l k
    refine ⟨?_, ?_⟩
    · intro y0 y1 y2 y3 y4 y5 y6 y7 y8 y9 y10 y11 y12 y13 y14 y15 y16 y17 y18 y19 y20 y21 y22 y23 y24 y25 y26
      unfold hushref16_Same.j0
      repeat' first
      | (with_reducible exact ih0 _ _ _ _ _ _ _ _ _ _ _ _ _ _ _ _ _ _ _ _ _ _ _ _ _ _ _)
      | (with_reducible exact ih1 _ _ _ _ _ _ _ _ _ _ _ _ _ _ _ _ _ _ _ _ _ _ _ _ _ _ _ _)
      | (with_reducible exact LeO.refl _)
      | (with_reducible exact LeO.none _)
      | (with_reducible refine LeO.ite ?_ ?_)
      | (with_reducible refine LeO.bind ?_ (fun _ => ?_))
      | exact ih0 _ _ _ _ _ _ _ _ _ _ _ _ _ _ _ _ _ _ _ _ _ _ _ _ _ _ _
      | exact ih1 _ _ _ _ _ _ _ _ _ _ _ _ _ _ _ _ _ _ _ _ _ _ _ _ _ _ _ _
      | exact LeO.none _
      | refine LeO.ite ?_ ?_
      | refine LeO.bind ?_ (fun _ => ?_)
    · intro y0 y1 y2 y3 y4 y5 y6 y7 y8 y9 y10 y11 y12 y13 y14 y15 y16 y17 y18 y19 y20 y21 y22 y23 y24 y25 y26 y27
      unfold hushref16_Same.l0
      repeat' first
      | (with_reducible exact ih0 _ _ _ _ _ _ _ _ _ _ _ _ _ _ _ _ _ _ _ _ _ _ _ _ _ _ _)
      | (with_reducible exact ih1 _ _ _ _ _ _ _ _ _ _ _ _ _ _ _ _ _ _ _ _ _ _ _ _ _ _ _ _)
      | (with_reducible exact LeO.refl _)
      | (with_reducible exact LeO.none _)
      | (with_reducible refine LeO.ite ?_ ?_)
      | (with_reducible refine LeO.bind ?_ (fun _ => ?_))
      | exact ih0 _ _ _ _ _ _ _ _ _ _ _ _ _ _ _ _ _ _ _ _ _ _ _ _ _ _ _
      | exact ih1 _ _ _ _ _ _ _ _ _ _ _ _ _ _ _ _ _ _ _ _ _ _ _ _ _ _ _ _
      | exact LeO.none _
      | refine LeO.ite ?_ ?_
      | refine LeO.bind ?_ (fun _ => ?_)
theorem hushref16_Same.mono : ∀ a0 a1 a2 a3 a4 a5 a6 a7 a8 a9 a10 a11 a12 a13 a14 a15 a16 a17 a18 a19 a20 a21 a22 a23 a24 a25 k, LeO (hushref16_Same.f k a0 a1 a2 a3 a4 a5 a6 a7 a8 a9 a10 a11 a12 a13 a14 a15 a16 a17 a18 a19 a20 a21 a22 a23 a24 a25) (hushref16_Same.f (k + 1) a0 a1 a2 a3 a4 a5 a6 a7 a8 a9 a10 a11 a12 a13 a14 a15 a16 a17 a18 a19 a20 a21 a22 a23 a24 a25) := by
  intro a0 a1 a2 a3 a4 a5 a6 a7 a8 a9 a10 a11 a12 a13 a14 a15 a16 a17 a18 a19 a20 a21 a22 a23 a24 a25 k
  obtain ⟨ih0, ih1⟩ := hushref16_Same.mono_l k
  unfold hushref16_Same.f
  repeat' first
      | (with_reducible exact ih0 _ _ _ _ _ _ _ _ _ _ _ _ _ _ _ _ _ _ _ _ _ _ _ _ _ _ _)
      | (with_reducible exact ih1 _ _ _ _ _ _ _ _ _ _ _ _ _ _ _ _ _ _ _ _ _ _ _ _ _ _ _ _)
      | (with_reducible exact LeO.refl _)
      | (with_reducible exact LeO.none _)
      | (with_reducible refine LeO.ite ?_ ?_)
      | (with_reducible refine LeO.bind ?_ (fun _ => ?_))
      | exact ih0 _ _ _ _ _ _ _ _ _ _ _ _ _ _ _ _ _ _ _ _ _ _ _ _ _ _ _
      | exact ih1 _ _ _ _ _ _ _ _ _ _ _ _ _ _ _ _ _ _ _ _ _ _ _ _ _ _ _ _
      | exact LeO.none _
      | refine LeO.ite ?_ ?_
      | refine LeO.bind ?_ (fun _ => ?_)
set_option maxHeartbeats 8000000 in
set_option maxRecDepth 100000 in
theorem hushref16_Same.calls (k : Nat) (a0_0 : Int) (a0_1 : ByteArray) (a0_2 : Int) (a0_3 : ByteArray) (a0_4 : ByteArray) (a0_5 : Int) (a0_6 : Int) (a0_7 : Int) (a0_8 : Int) (a0_9 : Int) (A0_10 : Option Addr) (c0_10 : Nat) (l0_10 : List Int) (a0_11 : Int) (a0_12 : Int) (a1_0 : Int) (a1_1 : ByteArray) (a1_2 : Int) (a1_3 : ByteArray) (a1_4 : ByteArray) (a1_5 : Int) (a1_6 : Int) (a1_7 : Int) (a1_8 : Int) (a1_9 : Int) (A1_10 : Option Addr) (c1_10 : Nat) (l1_10 : List Int) (a1_11 : Int) (a1_12 : Int) (r : Bool) (w : World) (hr0_10 : Kd.C (Kd.int .i64) w A0_10 l0_10.length l0_10) (hc0_10 : l0_10.length ≤ c0_10) (hr1_10 : Kd.C (Kd.int .i64) w A1_10 l1_10.length l1_10) (hc1_10 : l1_10.length ≤ c1_10) (h : hushref16_Same.f k a0_0 a0_1 a0_2 a0_3 a0_4 a0_5 a0_6 a0_7 a0_8 a0_9 l0_10 a0_11 a0_12 a1_0 a1_1 a1_2 a1_3 a1_4 a1_5 a1_6 a1_7 a1_8 a1_9 l1_10 a1_11 a1_12 = some r) :
    Calls Try.prog 16 #[.agg #[.int .i64 a0_0, .string a0_1, .int .i64 a0_2, .string a0_3, .string a0_4, .int .i64 a0_5, .int .i64 a0_6, .int .i64 a0_7, .int .i64 a0_8, .int .i64 a0_9, .slice A0_10 l0_10.length c0_10, .int .i64 a0_11, .int .i64 a0_12], .agg #[.int .i64 a1_0, .string a1_1, .int .i64 a1_2, .string a1_3, .string a1_4, .int .i64 a1_5, .int .i64 a1_6, .int .i64 a1_7, .int .i64 a1_8, .int .i64 a1_9, .slice A1_10 l1_10.length c1_10, .int .i64 a1_11, .int .i64 a1_12]] w fun e w' => e = .returned (.bool r) ∧ Below w.heap.size w w' := by
  have hu40 := Try.underlying40
  have hu38 := Try.underlying38
  have HR0_10 := Aside0.mk hr0_10
  have HC0_10 := Aside0.mk hc0_10
  clear hr0_10 hc0_10
  have HR1_10 := Aside0.mk hr1_10
  have HC1_10 := Aside0.mk hc1_10
  clear hr1_10 hc1_10
  have HB := Aside0.mk (Below.refl w.heap.size w)
  have H : (if a0_0 = a1_0 then (if a0_1.toList = a1_1.toList then (if a0_2 = a1_2 then (if a0_3.toList = a1_3.toList then (if a0_4.toList = a1_4.toList then (if (!(a0_5 == a1_5) || (!(a0_6 == a1_6))) = true then (hushref16_Same.j0 k true a0_0 a0_1 a0_2 a0_3 a0_4 a0_5 a0_6 a0_7 a0_8 a0_9 l0_10 a0_11 a0_12 a1_0 a1_1 a1_2 a1_3 a1_4 a1_5 a1_6 a1_7 a1_8 a1_9 l1_10 a1_11 a1_12) else (if a0_7 = a1_7 then (if a0_8 = a1_8 then (if a0_9 = a1_9 then (if (!(a0_11 == a1_11) || (!(a0_12 == a1_12))) = true then (hushref16_Same.j0 k true a0_0 a0_1 a0_2 a0_3 a0_4 a0_5 a0_6 a0_7 a0_8 a0_9 l0_10 a0_11 a0_12 a1_0 a1_1 a1_2 a1_3 a1_4 a1_5 a1_6 a1_7 a1_8 a1_9 l1_10 a1_11 a1_12) else (hushref16_Same.j0 k ((l0_10.length : Int) != (l1_10.length : Int)) a0_0 a0_1 a0_2 a0_3 a0_4 a0_5 a0_6 a0_7 a0_8 a0_9 l0_10 a0_11 a0_12 a1_0 a1_1 a1_2 a1_3 a1_4 a1_5 a1_6 a1_7 a1_8 a1_9 l1_10 a1_11 a1_12)) else (hushref16_Same.j0 k true a0_0 a0_1 a0_2 a0_3 a0_4 a0_5 a0_6 a0_7 a0_8 a0_9 l0_10 a0_11 a0_12 a1_0 a1_1 a1_2 a1_3 a1_4 a1_5 a1_6 a1_7 a1_8 a1_9 l1_10 a1_11 a1_12)) else (hushref16_Same.j0 k true a0_0 a0_1 a0_2 a0_3 a0_4 a0_5 a0_6 a0_7 a0_8 a0_9 l0_10 a0_11 a0_12 a1_0 a1_1 a1_2 a1_3 a1_4 a1_5 a1_6 a1_7 a1_8 a1_9 l1_10 a1_11 a1_12)) else (hushref16_Same.j0 k true a0_0 a0_1 a0_2 a0_3 a0_4 a0_5 a0_6 a0_7 a0_8 a0_9 l0_10 a0_11 a0_12 a1_0 a1_1 a1_2 a1_3 a1_4 a1_5 a1_6 a1_7 a1_8 a1_9 l1_10 a1_11 a1_12))) else (hushref16_Same.j0 k true a0_0 a0_1 a0_2 a0_3 a0_4 a0_5 a0_6 a0_7 a0_8 a0_9 l0_10 a0_11 a0_12 a1_0 a1_1 a1_2 a1_3 a1_4 a1_5 a1_6 a1_7 a1_8 a1_9 l1_10 a1_11 a1_12)) else (hushref16_Same.j0 k true a0_0 a0_1 a0_2 a0_3 a0_4 a0_5 a0_6 a0_7 a0_8 a0_9 l0_10 a0_11 a0_12 a1_0 a1_1 a1_2 a1_3 a1_4 a1_5 a1_6 a1_7 a1_8 a1_9 l1_10 a1_11 a1_12)) else (hushref16_Same.j0 k true a0_0 a0_1 a0_2 a0_3 a0_4 a0_5 a0_6 a0_7 a0_8 a0_9 l0_10 a0_11 a0_12 a1_0 a1_1 a1_2 a1_3 a1_4 a1_5 a1_6 a1_7 a1_8 a1_9 l1_10 a1_11 a1_12)) else (hushref16_Same.j0 k true a0_0 a0_1 a0_2 a0_3 a0_4 a0_5 a0_6 a0_7 a0_8 a0_9 l0_10 a0_11 a0_12 a1_0 a1_1 a1_2 a1_3 a1_4 a1_5 a1_6 a1_7 a1_8 a1_9 l1_10 a1_11 a1_12)) else (hushref16_Same.j0 k true a0_0 a0_1 a0_2 a0_3 a0_4 a0_5 a0_6 a0_7 a0_8 a0_9 l0_10 a0_11 a0_12 a1_0 a1_1 a1_2 a1_3 a1_4 a1_5 a1_6 a1_7 a1_8 a1_9 l1_10 a1_11 a1_12)) = some r := h
  clear h
  have HC3 := Aside0.mk H
  clear H
  go_enter Try.func16, Try.ntmps16
  go_upto_region 1 with (first | ((with_reducible refine gate_dst (N := 2) rfl ?_); (try (refine gate_guard (by rfl) ?_; dsimp only)); refine box_event ?hg (N := 2) ?hd (cs := #[.int .i64 a0_0, .string a0_1, .int .i64 a0_2, .string a0_3, .string a0_4, .int .i64 a0_5, .int .i64 a0_6, .int .i64 a0_7, .int .i64 a0_8, .int .i64 a0_9, .slice A0_10 l0_10.length c0_10, .int .i64 a0_11, .int .i64 a0_12]) (t := 40) ?hr ?_; (case hd => rfl); (case hg => rfl); (case hr => first | (go_simp; done) | (go_simp; rfl)); intro gb220 hg w4 hbox hb; have n0_ := Aside0.mk (below_step (by repeat (first | (with_reducible first | exact HB.out | apply below_alloc | apply pw_below_drewN | apply below_drew1) | exact HB.out)) hb); have n1_ := Aside0.mk (hbox); have n2_ := Aside0.mk ((by rw [hg]; exact (below_size (by repeat (first | (with_reducible first | exact HB.out | apply below_alloc | apply pw_below_drewN | apply below_drew1) | exact HB.out))) : w.heap.size ≤ gb220)); have n3_ := Aside0.mk ((by rw [hg]; exact (below_size (by repeat (first | (with_reducible first | exact HB.out | apply below_alloc | apply pw_below_drewN | apply below_drew1) | exact HB.out))) : w.heap.size ≤ gb220)); clear HB; have HB := n0_; have BK220 := n1_; have GW220 := n2_; have GE220 := n3_; clear n0_ n1_ n2_ n3_; clear hb hbox hg) | ((with_reducible refine gate_dst (N := 3) rfl ?_); (try (refine gate_guard (by rfl) ?_; dsimp only)); refine box_event ?hg (N := 3) ?hd (cs := #[.int .i64 a1_0, .string a1_1, .int .i64 a1_2, .string a1_3, .string a1_4, .int .i64 a1_5, .int .i64 a1_6, .int .i64 a1_7, .int .i64 a1_8, .int .i64 a1_9, .slice A1_10 l1_10.length c1_10, .int .i64 a1_11, .int .i64 a1_12]) (t := 40) ?hr ?_; (case hd => rfl); (case hg => rfl); (case hr => first | (go_simp; done) | (go_simp; rfl)); intro gb221 hg w5 hbox hb; have n0_ := Aside0.mk (blk_below (g := gb220) (o := .cells #[.int .i64 a0_0, .string a0_1, .int .i64 a0_2, .string a0_3, .string a0_4, .int .i64 a0_5, .int .i64 a0_6, .int .i64 a0_7, .int .i64 a0_8, .int .i64 a0_9, .slice A0_10 l0_10.length c0_10, .int .i64 a0_11, .int .i64 a0_12] 40 (0, 0)) (by (with_reducible repeat (first | refine blk_drewN ?_ _ | refine blk_drew ?_ | refine blk_alloc ?_ _)); exact BK220.out) hb); have n1_ := Aside0.mk (below_step (by repeat (first | (with_reducible first | exact HB.out | apply below_alloc | apply pw_below_drewN | apply below_drew1 | refine below_set ?_ GE220.out) | exact HB.out)) hb); have n2_ := Aside0.mk (hbox); have n3_ := Aside0.mk ((by rw [hg]; exact (below_size (by repeat (first | (with_reducible first | exact HB.out | apply below_alloc | apply pw_below_drewN | apply below_drew1 | refine below_set ?_ GE220.out) | exact HB.out))) : w.heap.size ≤ gb221)); have n4_ := Aside0.mk ((by rw [hg]; exact (below_size (by repeat (first | (with_reducible first | exact HB.out | apply below_alloc | apply pw_below_drewN | apply below_drew1 | refine below_set ?_ GE220.out) | exact HB.out))) : w.heap.size ≤ gb221)); have n5_ := Aside0.mk ((by rw [hg]; exact Nat.ne_of_lt (blk_lt (g := gb220) (o := .cells #[.int .i64 a0_0, .string a0_1, .int .i64 a0_2, .string a0_3, .string a0_4, .int .i64 a0_5, .int .i64 a0_6, .int .i64 a0_7, .int .i64 a0_8, .int .i64 a0_9, .slice A0_10 l0_10.length c0_10, .int .i64 a0_11, .int .i64 a0_12] 40 (0, 0)) (by (with_reducible repeat (first | refine blk_drewN ?_ _ | refine blk_drew ?_ | refine blk_alloc ?_ _)); exact BK220.out)) : gb220 ≠ gb221)); have n6_ := Aside0.mk ((by rw [hg]; exact Nat.ne_of_gt (blk_lt (g := gb220) (o := .cells #[.int .i64 a0_0, .string a0_1, .int .i64 a0_2, .string a0_3, .string a0_4, .int .i64 a0_5, .int .i64 a0_6, .int .i64 a0_7, .int .i64 a0_8, .int .i64 a0_9, .slice A0_10 l0_10.length c0_10, .int .i64 a0_11, .int .i64 a0_12] 40 (0, 0)) (by (with_reducible repeat (first | refine blk_drewN ?_ _ | refine blk_drew ?_ | refine blk_alloc ?_ _)); exact BK220.out)) : gb221 ≠ gb220)); clear BK220; clear HB; have BK220 := n0_; have HB := n1_; have BK221 := n2_; have GW221 := n3_; have GE221 := n4_; have NB220_221 := n5_; have NB221_220 := n6_; clear n0_ n1_ n2_ n3_ n4_ n5_ n6_; clear hb hbox hg))
  repeat (go_quiet (first | ((with_reducible refine gate_dst (N := 2) rfl ?_); (try (refine gate_guard (by rfl) ?_; dsimp only)); refine box_event ?hg (N := 2) ?hd (cs := #[.int .i64 a0_0, .string a0_1, .int .i64 a0_2, .string a0_3, .string a0_4, .int .i64 a0_5, .int .i64 a0_6, .int .i64 a0_7, .int .i64 a0_8, .int .i64 a0_9, .slice A0_10 l0_10.length c0_10, .int .i64 a0_11, .int .i64 a0_12]) (t := 40) ?hr ?_; (case hd => rfl); (case hg => rfl); (case hr => first | (go_simp; done) | (go_simp; rfl)); intro gb220 hg w4 hbox hb; have n0_ := Aside0.mk (below_step (by repeat (first | (with_reducible first | exact HB.out | apply below_alloc | apply pw_below_drewN | apply below_drew1) | exact HB.out)) hb); have n1_ := Aside0.mk (hbox); have n2_ := Aside0.mk ((by rw [hg]; exact (below_size (by repeat (first | (with_reducible first | exact HB.out | apply below_alloc | apply pw_below_drewN | apply below_drew1) | exact HB.out))) : w.heap.size ≤ gb220)); have n3_ := Aside0.mk ((by rw [hg]; exact (below_size (by repeat (first | (with_reducible first | exact HB.out | apply below_alloc | apply pw_below_drewN | apply below_drew1) | exact HB.out))) : w.heap.size ≤ gb220)); clear HB; have HB := n0_; have BK220 := n1_; have GW220 := n2_; have GE220 := n3_; clear n0_ n1_ n2_ n3_; clear hb hbox hg) | ((with_reducible refine gate_dst (N := 3) rfl ?_); (try (refine gate_guard (by rfl) ?_; dsimp only)); refine box_event ?hg (N := 3) ?hd (cs := #[.int .i64 a1_0, .string a1_1, .int .i64 a1_2, .string a1_3, .string a1_4, .int .i64 a1_5, .int .i64 a1_6, .int .i64 a1_7, .int .i64 a1_8, .int .i64 a1_9, .slice A1_10 l1_10.length c1_10, .int .i64 a1_11, .int .i64 a1_12]) (t := 40) ?hr ?_; (case hd => rfl); (case hg => rfl); (case hr => first | (go_simp; done) | (go_simp; rfl)); intro gb221 hg w5 hbox hb; have n0_ := Aside0.mk (blk_below (g := gb220) (o := .cells #[.int .i64 a0_0, .string a0_1, .int .i64 a0_2, .string a0_3, .string a0_4, .int .i64 a0_5, .int .i64 a0_6, .int .i64 a0_7, .int .i64 a0_8, .int .i64 a0_9, .slice A0_10 l0_10.length c0_10, .int .i64 a0_11, .int .i64 a0_12] 40 (0, 0)) (by (with_reducible repeat (first | refine blk_drewN ?_ _ | refine blk_drew ?_ | refine blk_alloc ?_ _)); exact BK220.out) hb); have n1_ := Aside0.mk (below_step (by repeat (first | (with_reducible first | exact HB.out | apply below_alloc | apply pw_below_drewN | apply below_drew1 | refine below_set ?_ GE220.out) | exact HB.out)) hb); have n2_ := Aside0.mk (hbox); have n3_ := Aside0.mk ((by rw [hg]; exact (below_size (by repeat (first | (with_reducible first | exact HB.out | apply below_alloc | apply pw_below_drewN | apply below_drew1 | refine below_set ?_ GE220.out) | exact HB.out))) : w.heap.size ≤ gb221)); have n4_ := Aside0.mk ((by rw [hg]; exact (below_size (by repeat (first | (with_reducible first | exact HB.out | apply below_alloc | apply pw_below_drewN | apply below_drew1 | refine below_set ?_ GE220.out) | exact HB.out))) : w.heap.size ≤ gb221)); have n5_ := Aside0.mk ((by rw [hg]; exact Nat.ne_of_lt (blk_lt (g := gb220) (o := .cells #[.int .i64 a0_0, .string a0_1, .int .i64 a0_2, .string a0_3, .string a0_4, .int .i64 a0_5, .int .i64 a0_6, .int .i64 a0_7, .int .i64 a0_8, .int .i64 a0_9, .slice A0_10 l0_10.length c0_10, .int .i64 a0_11, .int .i64 a0_12] 40 (0, 0)) (by (with_reducible repeat (first | refine blk_drewN ?_ _ | refine blk_drew ?_ | refine blk_alloc ?_ _)); exact BK220.out)) : gb220 ≠ gb221)); have n6_ := Aside0.mk ((by rw [hg]; exact Nat.ne_of_gt (blk_lt (g := gb220) (o := .cells #[.int .i64 a0_0, .string a0_1, .int .i64 a0_2, .string a0_3, .string a0_4, .int .i64 a0_5, .int .i64 a0_6, .int .i64 a0_7, .int .i64 a0_8, .int .i64 a0_9, .slice A0_10 l0_10.length c0_10, .int .i64 a0_11, .int .i64 a0_12] 40 (0, 0)) (by (with_reducible repeat (first | refine blk_drewN ?_ _ | refine blk_drew ?_ | refine blk_alloc ?_ _)); exact BK220.out)) : gb221 ≠ gb220)); clear BK220; clear HB; have BK220 := n0_; have HB := n1_; have BK221 := n2_; have GW221 := n3_; have GE221 := n4_; have NB220_221 := n5_; have NB221_220 := n6_; clear n0_ n1_ n2_ n3_ n4_ n5_ n6_; clear hb hbox hg)); go_upto_region 1 with (first | ((with_reducible refine gate_dst (N := 2) rfl ?_); (try (refine gate_guard (by rfl) ?_; dsimp only)); refine box_event ?hg (N := 2) ?hd (cs := #[.int .i64 a0_0, .string a0_1, .int .i64 a0_2, .string a0_3, .string a0_4, .int .i64 a0_5, .int .i64 a0_6, .int .i64 a0_7, .int .i64 a0_8, .int .i64 a0_9, .slice A0_10 l0_10.length c0_10, .int .i64 a0_11, .int .i64 a0_12]) (t := 40) ?hr ?_; (case hd => rfl); (case hg => rfl); (case hr => first | (go_simp; done) | (go_simp; rfl)); intro gb220 hg w4 hbox hb; have n0_ := Aside0.mk (below_step (by repeat (first | (with_reducible first | exact HB.out | apply below_alloc | apply pw_below_drewN | apply below_drew1) | exact HB.out)) hb); have n1_ := Aside0.mk (hbox); have n2_ := Aside0.mk ((by rw [hg]; exact (below_size (by repeat (first | (with_reducible first | exact HB.out | apply below_alloc | apply pw_below_drewN | apply below_drew1) | exact HB.out))) : w.heap.size ≤ gb220)); have n3_ := Aside0.mk ((by rw [hg]; exact (below_size (by repeat (first | (with_reducible first | exact HB.out | apply below_alloc | apply pw_below_drewN | apply below_drew1) | exact HB.out))) : w.heap.size ≤ gb220)); clear HB; have HB := n0_; have BK220 := n1_; have GW220 := n2_; have GE220 := n3_; clear n0_ n1_ n2_ n3_; clear hb hbox hg) | ((with_reducible refine gate_dst (N := 3) rfl ?_); (try (refine gate_guard (by rfl) ?_; dsimp only)); refine box_event ?hg (N := 3) ?hd (cs := #[.int .i64 a1_0, .string a1_1, .int .i64 a1_2, .string a1_3, .string a1_4, .int .i64 a1_5, .int .i64 a1_6, .int .i64 a1_7, .int .i64 a1_8, .int .i64 a1_9, .slice A1_10 l1_10.length c1_10, .int .i64 a1_11, .int .i64 a1_12]) (t := 40) ?hr ?_; (case hd => rfl); (case hg => rfl); (case hr => first | (go_simp; done) | (go_simp; rfl)); intro gb221 hg w5 hbox hb; have n0_ := Aside0.mk (blk_below (g := gb220) (o := .cells #[.int .i64 a0_0, .string a0_1, .int .i64 a0_2, .string a0_3, .string a0_4, .int .i64 a0_5, .int .i64 a0_6, .int .i64 a0_7, .int .i64 a0_8, .int .i64 a0_9, .slice A0_10 l0_10.length c0_10, .int .i64 a0_11, .int .i64 a0_12] 40 (0, 0)) (by (with_reducible repeat (first | refine blk_drewN ?_ _ | refine blk_drew ?_ | refine blk_alloc ?_ _)); exact BK220.out) hb); have n1_ := Aside0.mk (below_step (by repeat (first | (with_reducible first | exact HB.out | apply below_alloc | apply pw_below_drewN | apply below_drew1 | refine below_set ?_ GE220.out) | exact HB.out)) hb); have n2_ := Aside0.mk (hbox); have n3_ := Aside0.mk ((by rw [hg]; exact (below_size (by repeat (first | (with_reducible first | exact HB.out | apply below_alloc | apply pw_below_drewN | apply below_drew1 | refine below_set ?_ GE220.out) | exact HB.out))) : w.heap.size ≤ gb221)); have n4_ := Aside0.mk ((by rw [hg]; exact (below_size (by repeat (first | (with_reducible first | exact HB.out | apply below_alloc | apply pw_below_drewN | apply below_drew1 | refine below_set ?_ GE220.out) | exact HB.out))) : w.heap.size ≤ gb221)); have n5_ := Aside0.mk ((by rw [hg]; exact Nat.ne_of_lt (blk_lt (g := gb220) (o := .cells #[.int .i64 a0_0, .string a0_1, .int .i64 a0_2, .string a0_3, .string a0_4, .int .i64 a0_5, .int .i64 a0_6, .int .i64 a0_7, .int .i64 a0_8, .int .i64 a0_9, .slice A0_10 l0_10.length c0_10, .int .i64 a0_11, .int .i64 a0_12] 40 (0, 0)) (by (with_reducible repeat (first | refine blk_drewN ?_ _ | refine blk_drew ?_ | refine blk_alloc ?_ _)); exact BK220.out)) : gb220 ≠ gb221)); have n6_ := Aside0.mk ((by rw [hg]; exact Nat.ne_of_gt (blk_lt (g := gb220) (o := .cells #[.int .i64 a0_0, .string a0_1, .int .i64 a0_2, .string a0_3, .string a0_4, .int .i64 a0_5, .int .i64 a0_6, .int .i64 a0_7, .int .i64 a0_8, .int .i64 a0_9, .slice A0_10 l0_10.length c0_10, .int .i64 a0_11, .int .i64 a0_12] 40 (0, 0)) (by (with_reducible repeat (first | refine blk_drewN ?_ _ | refine blk_drew ?_ | refine blk_alloc ?_ _)); exact BK220.out)) : gb221 ≠ gb220)); clear BK220; clear HB; have BK220 := n0_; have HB := n1_; have BK221 := n2_; have GW221 := n3_; have GE221 := n4_; have NB220_221 := n5_; have NB221_220 := n6_; clear n0_ n1_ n2_ n3_ n4_ n5_ n6_; clear hb hbox hg)))
  (try simp only [Act.put, List.setIfInBounds_toArray, List.set_cons_zero, List.set_cons_succ])
  go_cut [82] (fun v82 wc => ∃ (kq : Nat) (x82_2 : Bool), v82 = .bool x82_2 ∧ Aside0 (hushref16_Same.j0 kq x82_2 a0_0 a0_1 a0_2 a0_3 a0_4 a0_5 a0_6 a0_7 a0_8 a0_9 l0_10 a0_11 a0_12 a1_0 a1_1 a1_2 a1_3 a1_4 a1_5 a1_6 a1_7 a1_8 a1_9 l1_10 a1_11 a1_12 = some r) ∧ Aside0 (kq ≤ k) ∧ Aside0 (wc.heap[gb220]? = some (.cells #[.int .i64 a0_0, .string a0_1, .int .i64 a0_2, .string a0_3, .string a0_4, .int .i64 a0_5, .int .i64 a0_6, .int .i64 a0_7, .int .i64 a0_8, .int .i64 a0_9, (.slice A0_10 l0_10.length c0_10), .int .i64 a0_11, .int .i64 a0_12] 40 (0, 0))) ∧ Aside0 (wc.heap[gb221]? = some (.cells #[.int .i64 a1_0, .string a1_1, .int .i64 a1_2, .string a1_3, .string a1_4, .int .i64 a1_5, .int .i64 a1_6, .int .i64 a1_7, .int .i64 a1_8, .int .i64 a1_9, (.slice A1_10 l1_10.length c1_10), .int .i64 a1_11, .int .i64 a1_12] 40 (0, 0))) ∧ Aside0 (Below w.heap.size w wc))
  case first =>
    have H := HC3.out
    clear HC3
    by_cases c6 : a0_0 = a1_0
    · rw [if_pos c6] at H
      have c6b0 : (a0_0 == a1_0) = true := beq_iff_eq.mpr c6
      have c6b1 : (a0_0 != a1_0) = false := bne_eq_false_iff_eq.mpr c6
      clear c6
      (first | rw [c6b0] | (simp only [i64_w, i32_w]; rw [c6b0]) | skip)
      by_cases c7 : a0_1.toList = a1_1.toList
      · rw [if_pos c7] at H
        have c7b0 : (a0_1.toList == a1_1.toList) = true := beq_iff_eq.mpr c7
        have c7b1 : (a0_1.toList != a1_1.toList) = false := bne_eq_false_iff_eq.mpr c7
        clear c7
        by_cases c8 : a0_2 = a1_2
        · rw [if_pos c8] at H
          have c8b0 : (a0_2 == a1_2) = true := beq_iff_eq.mpr c8
          have c8b1 : (a0_2 != a1_2) = false := bne_eq_false_iff_eq.mpr c8
          clear c8
          by_cases c9 : a0_3.toList = a1_3.toList
          · rw [if_pos c9] at H
            have c9b0 : (a0_3.toList == a1_3.toList) = true := beq_iff_eq.mpr c9
            have c9b1 : (a0_3.toList != a1_3.toList) = false := bne_eq_false_iff_eq.mpr c9
            clear c9
            by_cases c10 : a0_4.toList = a1_4.toList
            · rw [if_pos c10] at H
              have c10b0 : (a0_4.toList == a1_4.toList) = true := beq_iff_eq.mpr c10
              have c10b1 : (a0_4.toList != a1_4.toList) = false := bne_eq_false_iff_eq.mpr c10
              clear c10
              by_cases c11 : (!(a0_5 == a1_5) || (!(a0_6 == a1_6))) = true
              · rw [if_pos c11] at H
                have c11b0 : (!(a0_5 == a1_5) || (!(a0_6 == a1_6))) = true := c11
                clear c11
                have H' := Aside0.mk H
                clear H
                have hnb12 := NB220_221.out
                have hnc12 := NB221_220.out
                have hcz13_0 : w5.cell? ⟨gb220, 0, none⟩ = some (.int .i64 a0_0) := (blk_cell BK220.out 0).trans rfl
                have hcz13_1 : w5.cell? ⟨gb220, 1, none⟩ = some (.string a0_1) := (blk_cell BK220.out 1).trans rfl
                have hcz13_2 : w5.cell? ⟨gb220, 2, none⟩ = some (.int .i64 a0_2) := (blk_cell BK220.out 2).trans rfl
                have hcz13_3 : w5.cell? ⟨gb220, 3, none⟩ = some (.string a0_3) := (blk_cell BK220.out 3).trans rfl
                have hcz13_4 : w5.cell? ⟨gb220, 4, none⟩ = some (.string a0_4) := (blk_cell BK220.out 4).trans rfl
                have hcz13_5 : w5.cell? ⟨gb220, 5, none⟩ = some (.int .i64 a0_5) := (blk_cell BK220.out 5).trans rfl
                have hcz13_6 : w5.cell? ⟨gb220, 6, none⟩ = some (.int .i64 a0_6) := (blk_cell BK220.out 6).trans rfl
                have hcz13_7 : w5.cell? ⟨gb220, 7, none⟩ = some (.int .i64 a0_7) := (blk_cell BK220.out 7).trans rfl
                have hcz13_8 : w5.cell? ⟨gb220, 8, none⟩ = some (.int .i64 a0_8) := (blk_cell BK220.out 8).trans rfl
                have hcz13_9 : w5.cell? ⟨gb220, 9, none⟩ = some (.int .i64 a0_9) := (blk_cell BK220.out 9).trans rfl
                have hcz13_10 : w5.cell? ⟨gb220, 10, none⟩ = some (.slice A0_10 l0_10.length c0_10) := (blk_cell BK220.out 10).trans rfl
                have hcz13_11 : w5.cell? ⟨gb220, 11, none⟩ = some (.int .i64 a0_11) := (blk_cell BK220.out 11).trans rfl
                have hcz13_12 : w5.cell? ⟨gb220, 12, none⟩ = some (.int .i64 a0_12) := (blk_cell BK220.out 12).trans rfl
                have hfz13_0 := blk_frozen BK220.out 0
                have hfz13_1 := blk_frozen BK220.out 1
                have hfz13_2 := blk_frozen BK220.out 2
                have hfz13_3 := blk_frozen BK220.out 3
                have hfz13_4 := blk_frozen BK220.out 4
                have hfz13_5 := blk_frozen BK220.out 5
                have hfz13_6 := blk_frozen BK220.out 6
                have hfz13_7 := blk_frozen BK220.out 7
                have hfz13_8 := blk_frozen BK220.out 8
                have hfz13_9 := blk_frozen BK220.out 9
                have hfz13_10 := blk_frozen BK220.out 10
                have hfz13_11 := blk_frozen BK220.out 11
                have hfz13_12 := blk_frozen BK220.out 12
                have hcz14_0 : w5.cell? ⟨gb221, 0, none⟩ = some (.int .i64 a1_0) := (blk_cell BK221.out 0).trans rfl
                have hcz14_1 : w5.cell? ⟨gb221, 1, none⟩ = some (.string a1_1) := (blk_cell BK221.out 1).trans rfl
                have hcz14_2 : w5.cell? ⟨gb221, 2, none⟩ = some (.int .i64 a1_2) := (blk_cell BK221.out 2).trans rfl
                have hcz14_3 : w5.cell? ⟨gb221, 3, none⟩ = some (.string a1_3) := (blk_cell BK221.out 3).trans rfl
                have hcz14_4 : w5.cell? ⟨gb221, 4, none⟩ = some (.string a1_4) := (blk_cell BK221.out 4).trans rfl
                have hcz14_5 : w5.cell? ⟨gb221, 5, none⟩ = some (.int .i64 a1_5) := (blk_cell BK221.out 5).trans rfl
                have hcz14_6 : w5.cell? ⟨gb221, 6, none⟩ = some (.int .i64 a1_6) := (blk_cell BK221.out 6).trans rfl
                have hcz14_7 : w5.cell? ⟨gb221, 7, none⟩ = some (.int .i64 a1_7) := (blk_cell BK221.out 7).trans rfl
                have hcz14_8 : w5.cell? ⟨gb221, 8, none⟩ = some (.int .i64 a1_8) := (blk_cell BK221.out 8).trans rfl
                have hcz14_9 : w5.cell? ⟨gb221, 9, none⟩ = some (.int .i64 a1_9) := (blk_cell BK221.out 9).trans rfl
                have hcz14_10 : w5.cell? ⟨gb221, 10, none⟩ = some (.slice A1_10 l1_10.length c1_10) := (blk_cell BK221.out 10).trans rfl
                have hcz14_11 : w5.cell? ⟨gb221, 11, none⟩ = some (.int .i64 a1_11) := (blk_cell BK221.out 11).trans rfl
                have hcz14_12 : w5.cell? ⟨gb221, 12, none⟩ = some (.int .i64 a1_12) := (blk_cell BK221.out 12).trans rfl
                have hfz14_0 := blk_frozen BK221.out 0
                have hfz14_1 := blk_frozen BK221.out 1
                have hfz14_2 := blk_frozen BK221.out 2
                have hfz14_3 := blk_frozen BK221.out 3
                have hfz14_4 := blk_frozen BK221.out 4
                have hfz14_5 := blk_frozen BK221.out 5
                have hfz14_6 := blk_frozen BK221.out 6
                have hfz14_7 := blk_frozen BK221.out 7
                have hfz14_8 := blk_frozen BK221.out 8
                have hfz14_9 := blk_frozen BK221.out 9
                have hfz14_10 := blk_frozen BK221.out 10
                have hfz14_11 := blk_frozen BK221.out 11
                have hfz14_12 := blk_frozen BK221.out 12
                go_wp2
                repeat (go_quiet (fail); try go_wp2)
                go_meet
                case rel => exact ⟨_, (true), (by first | rfl | (simp; done) | (simp [*]; done)), H', ⟨by first | omega | exact Nat.le_refl _⟩, ⟨by (with_reducible repeat (first | refine blk_drewN ?_ _ | refine blk_drew ?_ | refine blk_alloc ?_ _)); exact BK220.out⟩, ⟨by (with_reducible repeat (first | refine blk_drewN ?_ _ | refine blk_drew ?_ | refine blk_alloc ?_ _)); exact BK221.out⟩, ⟨by repeat (first | (with_reducible first | exact HB.out | apply below_alloc | apply pw_below_drewN | apply below_drew1 | refine below_set ?_ GE220.out | refine below_set ?_ GE221.out) | exact HB.out)⟩⟩
              · rw [if_neg c11] at H
                have c11b0 : (!(a0_5 == a1_5) || (!(a0_6 == a1_6))) = false := by simpa using c11
                clear c11
                by_cases c15 : a0_7 = a1_7
                · rw [if_pos c15] at H
                  have c15b0 : (a0_7 == a1_7) = true := beq_iff_eq.mpr c15
                  have c15b1 : (a0_7 != a1_7) = false := bne_eq_false_iff_eq.mpr c15
                  clear c15
                  by_cases c16 : a0_8 = a1_8
                  · rw [if_pos c16] at H
                    have c16b0 : (a0_8 == a1_8) = true := beq_iff_eq.mpr c16
                    have c16b1 : (a0_8 != a1_8) = false := bne_eq_false_iff_eq.mpr c16
                    clear c16
                    by_cases c17 : a0_9 = a1_9
                    · rw [if_pos c17] at H
                      have c17b0 : (a0_9 == a1_9) = true := beq_iff_eq.mpr c17
                      have c17b1 : (a0_9 != a1_9) = false := bne_eq_false_iff_eq.mpr c17
                      clear c17
                      by_cases c18 : (!(a0_11 == a1_11) || (!(a0_12 == a1_12))) = true
                      · rw [if_pos c18] at H
                        have c18b0 : (!(a0_11 == a1_11) || (!(a0_12 == a1_12))) = true := c18
                        clear c18
                        have H' := Aside0.mk H
                        clear H
                        have hnb19 := NB220_221.out
                        have hnc19 := NB221_220.out
                        have hcz20_0 : w5.cell? ⟨gb220, 0, none⟩ = some (.int .i64 a0_0) := (blk_cell BK220.out 0).trans rfl
                        have hcz20_1 : w5.cell? ⟨gb220, 1, none⟩ = some (.string a0_1) := (blk_cell BK220.out 1).trans rfl
                        have hcz20_2 : w5.cell? ⟨gb220, 2, none⟩ = some (.int .i64 a0_2) := (blk_cell BK220.out 2).trans rfl
                        have hcz20_3 : w5.cell? ⟨gb220, 3, none⟩ = some (.string a0_3) := (blk_cell BK220.out 3).trans rfl
                        have hcz20_4 : w5.cell? ⟨gb220, 4, none⟩ = some (.string a0_4) := (blk_cell BK220.out 4).trans rfl
                        have hcz20_5 : w5.cell? ⟨gb220, 5, none⟩ = some (.int .i64 a0_5) := (blk_cell BK220.out 5).trans rfl
                        have hcz20_6 : w5.cell? ⟨gb220, 6, none⟩ = some (.int .i64 a0_6) := (blk_cell BK220.out 6).trans rfl
                        have hcz20_7 : w5.cell? ⟨gb220, 7, none⟩ = some (.int .i64 a0_7) := (blk_cell BK220.out 7).trans rfl
                        have hcz20_8 : w5.cell? ⟨gb220, 8, none⟩ = some (.int .i64 a0_8) := (blk_cell BK220.out 8).trans rfl
                        have hcz20_9 : w5.cell? ⟨gb220, 9, none⟩ = some (.int .i64 a0_9) := (blk_cell BK220.out 9).trans rfl
                        have hcz20_10 : w5.cell? ⟨gb220, 10, none⟩ = some (.slice A0_10 l0_10.length c0_10) := (blk_cell BK220.out 10).trans rfl
                        have hcz20_11 : w5.cell? ⟨gb220, 11, none⟩ = some (.int .i64 a0_11) := (blk_cell BK220.out 11).trans rfl
                        have hcz20_12 : w5.cell? ⟨gb220, 12, none⟩ = some (.int .i64 a0_12) := (blk_cell BK220.out 12).trans rfl
                        have hfz20_0 := blk_frozen BK220.out 0
                        have hfz20_1 := blk_frozen BK220.out 1
                        have hfz20_2 := blk_frozen BK220.out 2
                        have hfz20_3 := blk_frozen BK220.out 3
                        have hfz20_4 := blk_frozen BK220.out 4
                        have hfz20_5 := blk_frozen BK220.out 5
                        have hfz20_6 := blk_frozen BK220.out 6
                        have hfz20_7 := blk_frozen BK220.out 7
                        have hfz20_8 := blk_frozen BK220.out 8
                        have hfz20_9 := blk_frozen BK220.out 9
                        have hfz20_10 := blk_frozen BK220.out 10
                        have hfz20_11 := blk_frozen BK220.out 11
                        have hfz20_12 := blk_frozen BK220.out 12
                        have hcz21_0 : w5.cell? ⟨gb221, 0, none⟩ = some (.int .i64 a1_0) := (blk_cell BK221.out 0).trans rfl
                        have hcz21_1 : w5.cell? ⟨gb221, 1, none⟩ = some (.string a1_1) := (blk_cell BK221.out 1).trans rfl
                        have hcz21_2 : w5.cell? ⟨gb221, 2, none⟩ = some (.int .i64 a1_2) := (blk_cell BK221.out 2).trans rfl
                        have hcz21_3 : w5.cell? ⟨gb221, 3, none⟩ = some (.string a1_3) := (blk_cell BK221.out 3).trans rfl
                        have hcz21_4 : w5.cell? ⟨gb221, 4, none⟩ = some (.string a1_4) := (blk_cell BK221.out 4).trans rfl
                        have hcz21_5 : w5.cell? ⟨gb221, 5, none⟩ = some (.int .i64 a1_5) := (blk_cell BK221.out 5).trans rfl
                        have hcz21_6 : w5.cell? ⟨gb221, 6, none⟩ = some (.int .i64 a1_6) := (blk_cell BK221.out 6).trans rfl
                        have hcz21_7 : w5.cell? ⟨gb221, 7, none⟩ = some (.int .i64 a1_7) := (blk_cell BK221.out 7).trans rfl
                        have hcz21_8 : w5.cell? ⟨gb221, 8, none⟩ = some (.int .i64 a1_8) := (blk_cell BK221.out 8).trans rfl
                        have hcz21_9 : w5.cell? ⟨gb221, 9, none⟩ = some (.int .i64 a1_9) := (blk_cell BK221.out 9).trans rfl
                        have hcz21_10 : w5.cell? ⟨gb221, 10, none⟩ = some (.slice A1_10 l1_10.length c1_10) := (blk_cell BK221.out 10).trans rfl
                        have hcz21_11 : w5.cell? ⟨gb221, 11, none⟩ = some (.int .i64 a1_11) := (blk_cell BK221.out 11).trans rfl
                        have hcz21_12 : w5.cell? ⟨gb221, 12, none⟩ = some (.int .i64 a1_12) := (blk_cell BK221.out 12).trans rfl
                        have hfz21_0 := blk_frozen BK221.out 0
                        have hfz21_1 := blk_frozen BK221.out 1
                        have hfz21_2 := blk_frozen BK221.out 2
                        have hfz21_3 := blk_frozen BK221.out 3
                        have hfz21_4 := blk_frozen BK221.out 4
                        have hfz21_5 := blk_frozen BK221.out 5
                        have hfz21_6 := blk_frozen BK221.out 6
                        have hfz21_7 := blk_frozen BK221.out 7
                        have hfz21_8 := blk_frozen BK221.out 8
                        have hfz21_9 := blk_frozen BK221.out 9
                        have hfz21_10 := blk_frozen BK221.out 10
                        have hfz21_11 := blk_frozen BK221.out 11
                        have hfz21_12 := blk_frozen BK221.out 12
                        go_wp2
                        repeat (go_quiet (fail); try go_wp2)
                        go_meet
                        case rel => exact ⟨_, (true), (by first | rfl | (simp; done) | (simp [*]; done)), H', ⟨by first | omega | exact Nat.le_refl _⟩, ⟨by (with_reducible repeat (first | refine blk_drewN ?_ _ | refine blk_drew ?_ | refine blk_alloc ?_ _)); exact BK220.out⟩, ⟨by (with_reducible repeat (first | refine blk_drewN ?_ _ | refine blk_drew ?_ | refine blk_alloc ?_ _)); exact BK221.out⟩, ⟨by repeat (first | (with_reducible first | exact HB.out | apply below_alloc | apply pw_below_drewN | apply below_drew1 | refine below_set ?_ GE220.out | refine below_set ?_ GE221.out) | exact HB.out)⟩⟩
                      · rw [if_neg c18] at H
                        have c18b0 : (!(a0_11 == a1_11) || (!(a0_12 == a1_12))) = false := by simpa using c18
                        clear c18
                        have H' := Aside0.mk H
                        clear H
                        have hnb22 := NB220_221.out
                        have hnc22 := NB221_220.out
                        have hcz23_0 : w5.cell? ⟨gb220, 0, none⟩ = some (.int .i64 a0_0) := (blk_cell BK220.out 0).trans rfl
                        have hcz23_1 : w5.cell? ⟨gb220, 1, none⟩ = some (.string a0_1) := (blk_cell BK220.out 1).trans rfl
                        have hcz23_2 : w5.cell? ⟨gb220, 2, none⟩ = some (.int .i64 a0_2) := (blk_cell BK220.out 2).trans rfl
                        have hcz23_3 : w5.cell? ⟨gb220, 3, none⟩ = some (.string a0_3) := (blk_cell BK220.out 3).trans rfl
                        have hcz23_4 : w5.cell? ⟨gb220, 4, none⟩ = some (.string a0_4) := (blk_cell BK220.out 4).trans rfl
                        have hcz23_5 : w5.cell? ⟨gb220, 5, none⟩ = some (.int .i64 a0_5) := (blk_cell BK220.out 5).trans rfl
                        have hcz23_6 : w5.cell? ⟨gb220, 6, none⟩ = some (.int .i64 a0_6) := (blk_cell BK220.out 6).trans rfl
                        have hcz23_7 : w5.cell? ⟨gb220, 7, none⟩ = some (.int .i64 a0_7) := (blk_cell BK220.out 7).trans rfl
                        have hcz23_8 : w5.cell? ⟨gb220, 8, none⟩ = some (.int .i64 a0_8) := (blk_cell BK220.out 8).trans rfl
                        have hcz23_9 : w5.cell? ⟨gb220, 9, none⟩ = some (.int .i64 a0_9) := (blk_cell BK220.out 9).trans rfl
                        have hcz23_10 : w5.cell? ⟨gb220, 10, none⟩ = some (.slice A0_10 l0_10.length c0_10) := (blk_cell BK220.out 10).trans rfl
                        have hcz23_11 : w5.cell? ⟨gb220, 11, none⟩ = some (.int .i64 a0_11) := (blk_cell BK220.out 11).trans rfl
                        have hcz23_12 : w5.cell? ⟨gb220, 12, none⟩ = some (.int .i64 a0_12) := (blk_cell BK220.out 12).trans rfl
                        have hfz23_0 := blk_frozen BK220.out 0
                        have hfz23_1 := blk_frozen BK220.out 1
                        have hfz23_2 := blk_frozen BK220.out 2
                        have hfz23_3 := blk_frozen BK220.out 3
                        have hfz23_4 := blk_frozen BK220.out 4
                        have hfz23_5 := blk_frozen BK220.out 5
                        have hfz23_6 := blk_frozen BK220.out 6
                        have hfz23_7 := blk_frozen BK220.out 7
                        have hfz23_8 := blk_frozen BK220.out 8
                        have hfz23_9 := blk_frozen BK220.out 9
                        have hfz23_10 := blk_frozen BK220.out 10
                        have hfz23_11 := blk_frozen BK220.out 11
                        have hfz23_12 := blk_frozen BK220.out 12
                        have hcz24_0 : w5.cell? ⟨gb221, 0, none⟩ = some (.int .i64 a1_0) := (blk_cell BK221.out 0).trans rfl
                        have hcz24_1 : w5.cell? ⟨gb221, 1, none⟩ = some (.string a1_1) := (blk_cell BK221.out 1).trans rfl
                        have hcz24_2 : w5.cell? ⟨gb221, 2, none⟩ = some (.int .i64 a1_2) := (blk_cell BK221.out 2).trans rfl
                        have hcz24_3 : w5.cell? ⟨gb221, 3, none⟩ = some (.string a1_3) := (blk_cell BK221.out 3).trans rfl
                        have hcz24_4 : w5.cell? ⟨gb221, 4, none⟩ = some (.string a1_4) := (blk_cell BK221.out 4).trans rfl
                        have hcz24_5 : w5.cell? ⟨gb221, 5, none⟩ = some (.int .i64 a1_5) := (blk_cell BK221.out 5).trans rfl
                        have hcz24_6 : w5.cell? ⟨gb221, 6, none⟩ = some (.int .i64 a1_6) := (blk_cell BK221.out 6).trans rfl
                        have hcz24_7 : w5.cell? ⟨gb221, 7, none⟩ = some (.int .i64 a1_7) := (blk_cell BK221.out 7).trans rfl
                        have hcz24_8 : w5.cell? ⟨gb221, 8, none⟩ = some (.int .i64 a1_8) := (blk_cell BK221.out 8).trans rfl
                        have hcz24_9 : w5.cell? ⟨gb221, 9, none⟩ = some (.int .i64 a1_9) := (blk_cell BK221.out 9).trans rfl
                        have hcz24_10 : w5.cell? ⟨gb221, 10, none⟩ = some (.slice A1_10 l1_10.length c1_10) := (blk_cell BK221.out 10).trans rfl
                        have hcz24_11 : w5.cell? ⟨gb221, 11, none⟩ = some (.int .i64 a1_11) := (blk_cell BK221.out 11).trans rfl
                        have hcz24_12 : w5.cell? ⟨gb221, 12, none⟩ = some (.int .i64 a1_12) := (blk_cell BK221.out 12).trans rfl
                        have hfz24_0 := blk_frozen BK221.out 0
                        have hfz24_1 := blk_frozen BK221.out 1
                        have hfz24_2 := blk_frozen BK221.out 2
                        have hfz24_3 := blk_frozen BK221.out 3
                        have hfz24_4 := blk_frozen BK221.out 4
                        have hfz24_5 := blk_frozen BK221.out 5
                        have hfz24_6 := blk_frozen BK221.out 6
                        have hfz24_7 := blk_frozen BK221.out 7
                        have hfz24_8 := blk_frozen BK221.out 8
                        have hfz24_9 := blk_frozen BK221.out 9
                        have hfz24_10 := blk_frozen BK221.out 10
                        have hfz24_11 := blk_frozen BK221.out 11
                        have hfz24_12 := blk_frozen BK221.out 12
                        go_wp2
                        repeat (go_quiet (fail); try go_wp2)
                        go_meet
                        case rel => exact ⟨_, (((l0_10.length : Int) != (l1_10.length : Int))), (by first | rfl | (simp; done) | (simp [*]; done)), H', ⟨by first | omega | exact Nat.le_refl _⟩, ⟨by (with_reducible repeat (first | refine blk_drewN ?_ _ | refine blk_drew ?_ | refine blk_alloc ?_ _)); exact BK220.out⟩, ⟨by (with_reducible repeat (first | refine blk_drewN ?_ _ | refine blk_drew ?_ | refine blk_alloc ?_ _)); exact BK221.out⟩, ⟨by repeat (first | (with_reducible first | exact HB.out | apply below_alloc | apply pw_below_drewN | apply below_drew1 | refine below_set ?_ GE220.out | refine below_set ?_ GE221.out) | exact HB.out)⟩⟩
                    · rw [if_neg c17] at H
                      have c17b0 : (a0_9 == a1_9) = false := beq_eq_false_iff_ne.mpr c17
                      have c17b1 : (a0_9 != a1_9) = true := bne_iff_ne.mpr c17
                      have H' := Aside0.mk H
                      clear H
                      have hnb25 := NB220_221.out
                      have hnc25 := NB221_220.out
                      have hcz26_0 : w5.cell? ⟨gb220, 0, none⟩ = some (.int .i64 a0_0) := (blk_cell BK220.out 0).trans rfl
                      have hcz26_1 : w5.cell? ⟨gb220, 1, none⟩ = some (.string a0_1) := (blk_cell BK220.out 1).trans rfl
                      have hcz26_2 : w5.cell? ⟨gb220, 2, none⟩ = some (.int .i64 a0_2) := (blk_cell BK220.out 2).trans rfl
                      have hcz26_3 : w5.cell? ⟨gb220, 3, none⟩ = some (.string a0_3) := (blk_cell BK220.out 3).trans rfl
                      have hcz26_4 : w5.cell? ⟨gb220, 4, none⟩ = some (.string a0_4) := (blk_cell BK220.out 4).trans rfl
                      have hcz26_5 : w5.cell? ⟨gb220, 5, none⟩ = some (.int .i64 a0_5) := (blk_cell BK220.out 5).trans rfl
                      have hcz26_6 : w5.cell? ⟨gb220, 6, none⟩ = some (.int .i64 a0_6) := (blk_cell BK220.out 6).trans rfl
                      have hcz26_7 : w5.cell? ⟨gb220, 7, none⟩ = some (.int .i64 a0_7) := (blk_cell BK220.out 7).trans rfl
                      have hcz26_8 : w5.cell? ⟨gb220, 8, none⟩ = some (.int .i64 a0_8) := (blk_cell BK220.out 8).trans rfl
                      have hcz26_9 : w5.cell? ⟨gb220, 9, none⟩ = some (.int .i64 a0_9) := (blk_cell BK220.out 9).trans rfl
                      have hcz26_10 : w5.cell? ⟨gb220, 10, none⟩ = some (.slice A0_10 l0_10.length c0_10) := (blk_cell BK220.out 10).trans rfl
                      have hcz26_11 : w5.cell? ⟨gb220, 11, none⟩ = some (.int .i64 a0_11) := (blk_cell BK220.out 11).trans rfl
                      have hcz26_12 : w5.cell? ⟨gb220, 12, none⟩ = some (.int .i64 a0_12) := (blk_cell BK220.out 12).trans rfl
                      have hfz26_0 := blk_frozen BK220.out 0
                      have hfz26_1 := blk_frozen BK220.out 1
                      have hfz26_2 := blk_frozen BK220.out 2
                      have hfz26_3 := blk_frozen BK220.out 3
                      have hfz26_4 := blk_frozen BK220.out 4
                      have hfz26_5 := blk_frozen BK220.out 5
                      have hfz26_6 := blk_frozen BK220.out 6
                      have hfz26_7 := blk_frozen BK220.out 7
                      have hfz26_8 := blk_frozen BK220.out 8
                      have hfz26_9 := blk_frozen BK220.out 9
                      have hfz26_10 := blk_frozen BK220.out 10
                      have hfz26_11 := blk_frozen BK220.out 11
                      have hfz26_12 := blk_frozen BK220.out 12
                      have hcz27_0 : w5.cell? ⟨gb221, 0, none⟩ = some (.int .i64 a1_0) := (blk_cell BK221.out 0).trans rfl
                      have hcz27_1 : w5.cell? ⟨gb221, 1, none⟩ = some (.string a1_1) := (blk_cell BK221.out 1).trans rfl
                      have hcz27_2 : w5.cell? ⟨gb221, 2, none⟩ = some (.int .i64 a1_2) := (blk_cell BK221.out 2).trans rfl
                      have hcz27_3 : w5.cell? ⟨gb221, 3, none⟩ = some (.string a1_3) := (blk_cell BK221.out 3).trans rfl
                      have hcz27_4 : w5.cell? ⟨gb221, 4, none⟩ = some (.string a1_4) := (blk_cell BK221.out 4).trans rfl
                      have hcz27_5 : w5.cell? ⟨gb221, 5, none⟩ = some (.int .i64 a1_5) := (blk_cell BK221.out 5).trans rfl
                      have hcz27_6 : w5.cell? ⟨gb221, 6, none⟩ = some (.int .i64 a1_6) := (blk_cell BK221.out 6).trans rfl
                      have hcz27_7 : w5.cell? ⟨gb221, 7, none⟩ = some (.int .i64 a1_7) := (blk_cell BK221.out 7).trans rfl
                      have hcz27_8 : w5.cell? ⟨gb221, 8, none⟩ = some (.int .i64 a1_8) := (blk_cell BK221.out 8).trans rfl
                      have hcz27_9 : w5.cell? ⟨gb221, 9, none⟩ = some (.int .i64 a1_9) := (blk_cell BK221.out 9).trans rfl
                      have hcz27_10 : w5.cell? ⟨gb221, 10, none⟩ = some (.slice A1_10 l1_10.length c1_10) := (blk_cell BK221.out 10).trans rfl
                      have hcz27_11 : w5.cell? ⟨gb221, 11, none⟩ = some (.int .i64 a1_11) := (blk_cell BK221.out 11).trans rfl
                      have hcz27_12 : w5.cell? ⟨gb221, 12, none⟩ = some (.int .i64 a1_12) := (blk_cell BK221.out 12).trans rfl
                      have hfz27_0 := blk_frozen BK221.out 0
                      have hfz27_1 := blk_frozen BK221.out 1
                      have hfz27_2 := blk_frozen BK221.out 2
                      have hfz27_3 := blk_frozen BK221.out 3
                      have hfz27_4 := blk_frozen BK221.out 4
                      have hfz27_5 := blk_frozen BK221.out 5
                      have hfz27_6 := blk_frozen BK221.out 6
                      have hfz27_7 := blk_frozen BK221.out 7
                      have hfz27_8 := blk_frozen BK221.out 8
                      have hfz27_9 := blk_frozen BK221.out 9
                      have hfz27_10 := blk_frozen BK221.out 10
                      have hfz27_11 := blk_frozen BK221.out 11
                      have hfz27_12 := blk_frozen BK221.out 12
                      go_wp2
                      repeat (go_quiet (fail); try go_wp2)
                      go_meet
                      case rel => exact ⟨_, (true), (by first | rfl | (simp; done) | (simp [*]; done)), H', ⟨by first | omega | exact Nat.le_refl _⟩, ⟨by (with_reducible repeat (first | refine blk_drewN ?_ _ | refine blk_drew ?_ | refine blk_alloc ?_ _)); exact BK220.out⟩, ⟨by (with_reducible repeat (first | refine blk_drewN ?_ _ | refine blk_drew ?_ | refine blk_alloc ?_ _)); exact BK221.out⟩, ⟨by repeat (first | (with_reducible first | exact HB.out | apply below_alloc | apply pw_below_drewN | apply below_drew1 | refine below_set ?_ GE220.out | refine below_set ?_ GE221.out) | exact HB.out)⟩⟩
                  · rw [if_neg c16] at H
                    have c16b0 : (a0_8 == a1_8) = false := beq_eq_false_iff_ne.mpr c16
                    have c16b1 : (a0_8 != a1_8) = true := bne_iff_ne.mpr c16
                    have H' := Aside0.mk H
                    clear H
                    have hnb28 := NB220_221.out
                    have hnc28 := NB221_220.out
                    have hcz29_0 : w5.cell? ⟨gb220, 0, none⟩ = some (.int .i64 a0_0) := (blk_cell BK220.out 0).trans rfl
                    have hcz29_1 : w5.cell? ⟨gb220, 1, none⟩ = some (.string a0_1) := (blk_cell BK220.out 1).trans rfl
                    have hcz29_2 : w5.cell? ⟨gb220, 2, none⟩ = some (.int .i64 a0_2) := (blk_cell BK220.out 2).trans rfl
                    have hcz29_3 : w5.cell? ⟨gb220, 3, none⟩ = some (.string a0_3) := (blk_cell BK220.out 3).trans rfl
                    have hcz29_4 : w5.cell? ⟨gb220, 4, none⟩ = some (.string a0_4) := (blk_cell BK220.out 4).trans rfl
                    have hcz29_5 : w5.cell? ⟨gb220, 5, none⟩ = some (.int .i64 a0_5) := (blk_cell BK220.out 5).trans rfl
                    have hcz29_6 : w5.cell? ⟨gb220, 6, none⟩ = some (.int .i64 a0_6) := (blk_cell BK220.out 6).trans rfl
                    have hcz29_7 : w5.cell? ⟨gb220, 7, none⟩ = some (.int .i64 a0_7) := (blk_cell BK220.out 7).trans rfl
                    have hcz29_8 : w5.cell? ⟨gb220, 8, none⟩ = some (.int .i64 a0_8) := (blk_cell BK220.out 8).trans rfl
                    have hcz29_9 : w5.cell? ⟨gb220, 9, none⟩ = some (.int .i64 a0_9) := (blk_cell BK220.out 9).trans rfl
                    have hcz29_10 : w5.cell? ⟨gb220, 10, none⟩ = some (.slice A0_10 l0_10.length c0_10) := (blk_cell BK220.out 10).trans rfl
                    have hcz29_11 : w5.cell? ⟨gb220, 11, none⟩ = some (.int .i64 a0_11) := (blk_cell BK220.out 11).trans rfl
                    have hcz29_12 : w5.cell? ⟨gb220, 12, none⟩ = some (.int .i64 a0_12) := (blk_cell BK220.out 12).trans rfl
                    have hfz29_0 := blk_frozen BK220.out 0
                    have hfz29_1 := blk_frozen BK220.out 1
                    have hfz29_2 := blk_frozen BK220.out 2
                    have hfz29_3 := blk_frozen BK220.out 3
                    have hfz29_4 := blk_frozen BK220.out 4
                    have hfz29_5 := blk_frozen BK220.out 5
                    have hfz29_6 := blk_frozen BK220.out 6
                    have hfz29_7 := blk_frozen BK220.out 7
                    have hfz29_8 := blk_frozen BK220.out 8
                    have hfz29_9 := blk_frozen BK220.out 9
                    have hfz29_10 := blk_frozen BK220.out 10
                    have hfz29_11 := blk_frozen BK220.out 11
                    have hfz29_12 := blk_frozen BK220.out 12
                    have hcz30_0 : w5.cell? ⟨gb221, 0, none⟩ = some (.int .i64 a1_0) := (blk_cell BK221.out 0).trans rfl
                    have hcz30_1 : w5.cell? ⟨gb221, 1, none⟩ = some (.string a1_1) := (blk_cell BK221.out 1).trans rfl
                    have hcz30_2 : w5.cell? ⟨gb221, 2, none⟩ = some (.int .i64 a1_2) := (blk_cell BK221.out 2).trans rfl
                    have hcz30_3 : w5.cell? ⟨gb221, 3, none⟩ = some (.string a1_3) := (blk_cell BK221.out 3).trans rfl
                    have hcz30_4 : w5.cell? ⟨gb221, 4, none⟩ = some (.string a1_4) := (blk_cell BK221.out 4).trans rfl
                    have hcz30_5 : w5.cell? ⟨gb221, 5, none⟩ = some (.int .i64 a1_5) := (blk_cell BK221.out 5).trans rfl
                    have hcz30_6 : w5.cell? ⟨gb221, 6, none⟩ = some (.int .i64 a1_6) := (blk_cell BK221.out 6).trans rfl
                    have hcz30_7 : w5.cell? ⟨gb221, 7, none⟩ = some (.int .i64 a1_7) := (blk_cell BK221.out 7).trans rfl
                    have hcz30_8 : w5.cell? ⟨gb221, 8, none⟩ = some (.int .i64 a1_8) := (blk_cell BK221.out 8).trans rfl
                    have hcz30_9 : w5.cell? ⟨gb221, 9, none⟩ = some (.int .i64 a1_9) := (blk_cell BK221.out 9).trans rfl
                    have hcz30_10 : w5.cell? ⟨gb221, 10, none⟩ = some (.slice A1_10 l1_10.length c1_10) := (blk_cell BK221.out 10).trans rfl
                    have hcz30_11 : w5.cell? ⟨gb221, 11, none⟩ = some (.int .i64 a1_11) := (blk_cell BK221.out 11).trans rfl
                    have hcz30_12 : w5.cell? ⟨gb221, 12, none⟩ = some (.int .i64 a1_12) := (blk_cell BK221.out 12).trans rfl
                    have hfz30_0 := blk_frozen BK221.out 0
                    have hfz30_1 := blk_frozen BK221.out 1
                    have hfz30_2 := blk_frozen BK221.out 2
                    have hfz30_3 := blk_frozen BK221.out 3
                    have hfz30_4 := blk_frozen BK221.out 4
                    have hfz30_5 := blk_frozen BK221.out 5
                    have hfz30_6 := blk_frozen BK221.out 6
                    have hfz30_7 := blk_frozen BK221.out 7
                    have hfz30_8 := blk_frozen BK221.out 8
                    have hfz30_9 := blk_frozen BK221.out 9
                    have hfz30_10 := blk_frozen BK221.out 10
                    have hfz30_11 := blk_frozen BK221.out 11
                    have hfz30_12 := blk_frozen BK221.out 12
                    go_wp2
                    repeat (go_quiet (fail); try go_wp2)
                    go_meet
                    case rel => exact ⟨_, (true), (by first | rfl | (simp; done) | (simp [*]; done)), H', ⟨by first | omega | exact Nat.le_refl _⟩, ⟨by (with_reducible repeat (first | refine blk_drewN ?_ _ | refine blk_drew ?_ | refine blk_alloc ?_ _)); exact BK220.out⟩, ⟨by (with_reducible repeat (first | refine blk_drewN ?_ _ | refine blk_drew ?_ | refine blk_alloc ?_ _)); exact BK221.out⟩, ⟨by repeat (first | (with_reducible first | exact HB.out | apply below_alloc | apply pw_below_drewN | apply below_drew1 | refine below_set ?_ GE220.out | refine below_set ?_ GE221.out) | exact HB.out)⟩⟩
                · rw [if_neg c15] at H
                  have c15b0 : (a0_7 == a1_7) = false := beq_eq_false_iff_ne.mpr c15
                  have c15b1 : (a0_7 != a1_7) = true := bne_iff_ne.mpr c15
                  have H' := Aside0.mk H
                  clear H
                  have hnb31 := NB220_221.out
                  have hnc31 := NB221_220.out
                  have hcz32_0 : w5.cell? ⟨gb220, 0, none⟩ = some (.int .i64 a0_0) := (blk_cell BK220.out 0).trans rfl
                  have hcz32_1 : w5.cell? ⟨gb220, 1, none⟩ = some (.string a0_1) := (blk_cell BK220.out 1).trans rfl
                  have hcz32_2 : w5.cell? ⟨gb220, 2, none⟩ = some (.int .i64 a0_2) := (blk_cell BK220.out 2).trans rfl
                  have hcz32_3 : w5.cell? ⟨gb220, 3, none⟩ = some (.string a0_3) := (blk_cell BK220.out 3).trans rfl
                  have hcz32_4 : w5.cell? ⟨gb220, 4, none⟩ = some (.string a0_4) := (blk_cell BK220.out 4).trans rfl
                  have hcz32_5 : w5.cell? ⟨gb220, 5, none⟩ = some (.int .i64 a0_5) := (blk_cell BK220.out 5).trans rfl
                  have hcz32_6 : w5.cell? ⟨gb220, 6, none⟩ = some (.int .i64 a0_6) := (blk_cell BK220.out 6).trans rfl
                  have hcz32_7 : w5.cell? ⟨gb220, 7, none⟩ = some (.int .i64 a0_7) := (blk_cell BK220.out 7).trans rfl
                  have hcz32_8 : w5.cell? ⟨gb220, 8, none⟩ = some (.int .i64 a0_8) := (blk_cell BK220.out 8).trans rfl
                  have hcz32_9 : w5.cell? ⟨gb220, 9, none⟩ = some (.int .i64 a0_9) := (blk_cell BK220.out 9).trans rfl
                  have hcz32_10 : w5.cell? ⟨gb220, 10, none⟩ = some (.slice A0_10 l0_10.length c0_10) := (blk_cell BK220.out 10).trans rfl
                  have hcz32_11 : w5.cell? ⟨gb220, 11, none⟩ = some (.int .i64 a0_11) := (blk_cell BK220.out 11).trans rfl
                  have hcz32_12 : w5.cell? ⟨gb220, 12, none⟩ = some (.int .i64 a0_12) := (blk_cell BK220.out 12).trans rfl
                  have hfz32_0 := blk_frozen BK220.out 0
                  have hfz32_1 := blk_frozen BK220.out 1
                  have hfz32_2 := blk_frozen BK220.out 2
                  have hfz32_3 := blk_frozen BK220.out 3
                  have hfz32_4 := blk_frozen BK220.out 4
                  have hfz32_5 := blk_frozen BK220.out 5
                  have hfz32_6 := blk_frozen BK220.out 6
                  have hfz32_7 := blk_frozen BK220.out 7
                  have hfz32_8 := blk_frozen BK220.out 8
                  have hfz32_9 := blk_frozen BK220.out 9
                  have hfz32_10 := blk_frozen BK220.out 10
                  have hfz32_11 := blk_frozen BK220.out 11
                  have hfz32_12 := blk_frozen BK220.out 12
                  have hcz33_0 : w5.cell? ⟨gb221, 0, none⟩ = some (.int .i64 a1_0) := (blk_cell BK221.out 0).trans rfl
                  have hcz33_1 : w5.cell? ⟨gb221, 1, none⟩ = some (.string a1_1) := (blk_cell BK221.out 1).trans rfl
                  have hcz33_2 : w5.cell? ⟨gb221, 2, none⟩ = some (.int .i64 a1_2) := (blk_cell BK221.out 2).trans rfl
                  have hcz33_3 : w5.cell? ⟨gb221, 3, none⟩ = some (.string a1_3) := (blk_cell BK221.out 3).trans rfl
                  have hcz33_4 : w5.cell? ⟨gb221, 4, none⟩ = some (.string a1_4) := (blk_cell BK221.out 4).trans rfl
                  have hcz33_5 : w5.cell? ⟨gb221, 5, none⟩ = some (.int .i64 a1_5) := (blk_cell BK221.out 5).trans rfl
                  have hcz33_6 : w5.cell? ⟨gb221, 6, none⟩ = some (.int .i64 a1_6) := (blk_cell BK221.out 6).trans rfl
                  have hcz33_7 : w5.cell? ⟨gb221, 7, none⟩ = some (.int .i64 a1_7) := (blk_cell BK221.out 7).trans rfl
                  have hcz33_8 : w5.cell? ⟨gb221, 8, none⟩ = some (.int .i64 a1_8) := (blk_cell BK221.out 8).trans rfl
                  have hcz33_9 : w5.cell? ⟨gb221, 9, none⟩ = some (.int .i64 a1_9) := (blk_cell BK221.out 9).trans rfl
                  have hcz33_10 : w5.cell? ⟨gb221, 10, none⟩ = some (.slice A1_10 l1_10.length c1_10) := (blk_cell BK221.out 10).trans rfl
                  have hcz33_11 : w5.cell? ⟨gb221, 11, none⟩ = some (.int .i64 a1_11) := (blk_cell BK221.out 11).trans rfl
                  have hcz33_12 : w5.cell? ⟨gb221, 12, none⟩ = some (.int .i64 a1_12) := (blk_cell BK221.out 12).trans rfl
                  have hfz33_0 := blk_frozen BK221.out 0
                  have hfz33_1 := blk_frozen BK221.out 1
                  have hfz33_2 := blk_frozen BK221.out 2
                  have hfz33_3 := blk_frozen BK221.out 3
                  have hfz33_4 := blk_frozen BK221.out 4
                  have hfz33_5 := blk_frozen BK221.out 5
                  have hfz33_6 := blk_frozen BK221.out 6
                  have hfz33_7 := blk_frozen BK221.out 7
                  have hfz33_8 := blk_frozen BK221.out 8
                  have hfz33_9 := blk_frozen BK221.out 9
                  have hfz33_10 := blk_frozen BK221.out 10
                  have hfz33_11 := blk_frozen BK221.out 11
                  have hfz33_12 := blk_frozen BK221.out 12
                  go_wp2
                  repeat (go_quiet (fail); try go_wp2)
                  go_meet
                  case rel => exact ⟨_, (true), (by first | rfl | (simp; done) | (simp [*]; done)), H', ⟨by first | omega | exact Nat.le_refl _⟩, ⟨by (with_reducible repeat (first | refine blk_drewN ?_ _ | refine blk_drew ?_ | refine blk_alloc ?_ _)); exact BK220.out⟩, ⟨by (with_reducible repeat (first | refine blk_drewN ?_ _ | refine blk_drew ?_ | refine blk_alloc ?_ _)); exact BK221.out⟩, ⟨by repeat (first | (with_reducible first | exact HB.out | apply below_alloc | apply pw_below_drewN | apply below_drew1 | refine below_set ?_ GE220.out | refine below_set ?_ GE221.out) | exact HB.out)⟩⟩
            · rw [if_neg c10] at H
              have c10b0 : (a0_4.toList == a1_4.toList) = false := beq_eq_false_iff_ne.mpr c10
              have c10b1 : (a0_4.toList != a1_4.toList) = true := bne_iff_ne.mpr c10
              have H' := Aside0.mk H
              clear H
              have hnb34 := NB220_221.out
              have hnc34 := NB221_220.out
              have hcz35_0 : w5.cell? ⟨gb220, 0, none⟩ = some (.int .i64 a0_0) := (blk_cell BK220.out 0).trans rfl
              have hcz35_1 : w5.cell? ⟨gb220, 1, none⟩ = some (.string a0_1) := (blk_cell BK220.out 1).trans rfl
              have hcz35_2 : w5.cell? ⟨gb220, 2, none⟩ = some (.int .i64 a0_2) := (blk_cell BK220.out 2).trans rfl
              have hcz35_3 : w5.cell? ⟨gb220, 3, none⟩ = some (.string a0_3) := (blk_cell BK220.out 3).trans rfl
              have hcz35_4 : w5.cell? ⟨gb220, 4, none⟩ = some (.string a0_4) := (blk_cell BK220.out 4).trans rfl
              have hcz35_5 : w5.cell? ⟨gb220, 5, none⟩ = some (.int .i64 a0_5) := (blk_cell BK220.out 5).trans rfl
              have hcz35_6 : w5.cell? ⟨gb220, 6, none⟩ = some (.int .i64 a0_6) := (blk_cell BK220.out 6).trans rfl
              have hcz35_7 : w5.cell? ⟨gb220, 7, none⟩ = some (.int .i64 a0_7) := (blk_cell BK220.out 7).trans rfl
              have hcz35_8 : w5.cell? ⟨gb220, 8, none⟩ = some (.int .i64 a0_8) := (blk_cell BK220.out 8).trans rfl
              have hcz35_9 : w5.cell? ⟨gb220, 9, none⟩ = some (.int .i64 a0_9) := (blk_cell BK220.out 9).trans rfl
              have hcz35_10 : w5.cell? ⟨gb220, 10, none⟩ = some (.slice A0_10 l0_10.length c0_10) := (blk_cell BK220.out 10).trans rfl
              have hcz35_11 : w5.cell? ⟨gb220, 11, none⟩ = some (.int .i64 a0_11) := (blk_cell BK220.out 11).trans rfl
              have hcz35_12 : w5.cell? ⟨gb220, 12, none⟩ = some (.int .i64 a0_12) := (blk_cell BK220.out 12).trans rfl
              have hfz35_0 := blk_frozen BK220.out 0
              have hfz35_1 := blk_frozen BK220.out 1
              have hfz35_2 := blk_frozen BK220.out 2
              have hfz35_3 := blk_frozen BK220.out 3
              have hfz35_4 := blk_frozen BK220.out 4
              have hfz35_5 := blk_frozen BK220.out 5
              have hfz35_6 := blk_frozen BK220.out 6
              have hfz35_7 := blk_frozen BK220.out 7
              have hfz35_8 := blk_frozen BK220.out 8
              have hfz35_9 := blk_frozen BK220.out 9
              have hfz35_10 := blk_frozen BK220.out 10
              have hfz35_11 := blk_frozen BK220.out 11
              have hfz35_12 := blk_frozen BK220.out 12
              have hcz36_0 : w5.cell? ⟨gb221, 0, none⟩ = some (.int .i64 a1_0) := (blk_cell BK221.out 0).trans rfl
              have hcz36_1 : w5.cell? ⟨gb221, 1, none⟩ = some (.string a1_1) := (blk_cell BK221.out 1).trans rfl
              have hcz36_2 : w5.cell? ⟨gb221, 2, none⟩ = some (.int .i64 a1_2) := (blk_cell BK221.out 2).trans rfl
              have hcz36_3 : w5.cell? ⟨gb221, 3, none⟩ = some (.string a1_3) := (blk_cell BK221.out 3).trans rfl
              have hcz36_4 : w5.cell? ⟨gb221, 4, none⟩ = some (.string a1_4) := (blk_cell BK221.out 4).trans rfl
              have hcz36_5 : w5.cell? ⟨gb221, 5, none⟩ = some (.int .i64 a1_5) := (blk_cell BK221.out 5).trans rfl
              have hcz36_6 : w5.cell? ⟨gb221, 6, none⟩ = some (.int .i64 a1_6) := (blk_cell BK221.out 6).trans rfl
              have hcz36_7 : w5.cell? ⟨gb221, 7, none⟩ = some (.int .i64 a1_7) := (blk_cell BK221.out 7).trans rfl
              have hcz36_8 : w5.cell? ⟨gb221, 8, none⟩ = some (.int .i64 a1_8) := (blk_cell BK221.out 8).trans rfl
              have hcz36_9 : w5.cell? ⟨gb221, 9, none⟩ = some (.int .i64 a1_9) := (blk_cell BK221.out 9).trans rfl
              have hcz36_10 : w5.cell? ⟨gb221, 10, none⟩ = some (.slice A1_10 l1_10.length c1_10) := (blk_cell BK221.out 10).trans rfl
              have hcz36_11 : w5.cell? ⟨gb221, 11, none⟩ = some (.int .i64 a1_11) := (blk_cell BK221.out 11).trans rfl
              have hcz36_12 : w5.cell? ⟨gb221, 12, none⟩ = some (.int .i64 a1_12) := (blk_cell BK221.out 12).trans rfl
              have hfz36_0 := blk_frozen BK221.out 0
              have hfz36_1 := blk_frozen BK221.out 1
              have hfz36_2 := blk_frozen BK221.out 2
              have hfz36_3 := blk_frozen BK221.out 3
              have hfz36_4 := blk_frozen BK221.out 4
              have hfz36_5 := blk_frozen BK221.out 5
              have hfz36_6 := blk_frozen BK221.out 6
              have hfz36_7 := blk_frozen BK221.out 7
              have hfz36_8 := blk_frozen BK221.out 8
              have hfz36_9 := blk_frozen BK221.out 9
              have hfz36_10 := blk_frozen BK221.out 10
              have hfz36_11 := blk_frozen BK221.out 11
              have hfz36_12 := blk_frozen BK221.out 12
              go_wp2
              repeat (go_quiet (fail); try go_wp2)
              go_meet
              case rel => exact ⟨_, (true), (by first | rfl | (simp; done) | (simp [*]; done)), H', ⟨by first | omega | exact Nat.le_refl _⟩, ⟨by (with_reducible repeat (first | refine blk_drewN ?_ _ | refine blk_drew ?_ | refine blk_alloc ?_ _)); exact BK220.out⟩, ⟨by (with_reducible repeat (first | refine blk_drewN ?_ _ | refine blk_drew ?_ | refine blk_alloc ?_ _)); exact BK221.out⟩, ⟨by repeat (first | (with_reducible first | exact HB.out | apply below_alloc | apply pw_below_drewN | apply below_drew1 | refine below_set ?_ GE220.out | refine below_set ?_ GE221.out) | exact HB.out)⟩⟩
          · rw [if_neg c9] at H
            have c9b0 : (a0_3.toList == a1_3.toList) = false := beq_eq_false_iff_ne.mpr c9
            have c9b1 : (a0_3.toList != a1_3.toList) = true := bne_iff_ne.mpr c9
            have H' := Aside0.mk H
            clear H
            have hnb37 := NB220_221.out
            have hnc37 := NB221_220.out
            have hcz38_0 : w5.cell? ⟨gb220, 0, none⟩ = some (.int .i64 a0_0) := (blk_cell BK220.out 0).trans rfl
            have hcz38_1 : w5.cell? ⟨gb220, 1, none⟩ = some (.string a0_1) := (blk_cell BK220.out 1).trans rfl
            have hcz38_2 : w5.cell? ⟨gb220, 2, none⟩ = some (.int .i64 a0_2) := (blk_cell BK220.out 2).trans rfl
            have hcz38_3 : w5.cell? ⟨gb220, 3, none⟩ = some (.string a0_3) := (blk_cell BK220.out 3).trans rfl
            have hcz38_4 : w5.cell? ⟨gb220, 4, none⟩ = some (.string a0_4) := (blk_cell BK220.out 4).trans rfl
            have hcz38_5 : w5.cell? ⟨gb220, 5, none⟩ = some (.int .i64 a0_5) := (blk_cell BK220.out 5).trans rfl
            have hcz38_6 : w5.cell? ⟨gb220, 6, none⟩ = some (.int .i64 a0_6) := (blk_cell BK220.out 6).trans rfl
            have hcz38_7 : w5.cell? ⟨gb220, 7, none⟩ = some (.int .i64 a0_7) := (blk_cell BK220.out 7).trans rfl
            have hcz38_8 : w5.cell? ⟨gb220, 8, none⟩ = some (.int .i64 a0_8) := (blk_cell BK220.out 8).trans rfl
            have hcz38_9 : w5.cell? ⟨gb220, 9, none⟩ = some (.int .i64 a0_9) := (blk_cell BK220.out 9).trans rfl
            have hcz38_10 : w5.cell? ⟨gb220, 10, none⟩ = some (.slice A0_10 l0_10.length c0_10) := (blk_cell BK220.out 10).trans rfl
            have hcz38_11 : w5.cell? ⟨gb220, 11, none⟩ = some (.int .i64 a0_11) := (blk_cell BK220.out 11).trans rfl
            have hcz38_12 : w5.cell? ⟨gb220, 12, none⟩ = some (.int .i64 a0_12) := (blk_cell BK220.out 12).trans rfl
            have hfz38_0 := blk_frozen BK220.out 0
            have hfz38_1 := blk_frozen BK220.out 1
            have hfz38_2 := blk_frozen BK220.out 2
            have hfz38_3 := blk_frozen BK220.out 3
            have hfz38_4 := blk_frozen BK220.out 4
            have hfz38_5 := blk_frozen BK220.out 5
            have hfz38_6 := blk_frozen BK220.out 6
            have hfz38_7 := blk_frozen BK220.out 7
            have hfz38_8 := blk_frozen BK220.out 8
            have hfz38_9 := blk_frozen BK220.out 9
            have hfz38_10 := blk_frozen BK220.out 10
            have hfz38_11 := blk_frozen BK220.out 11
            have hfz38_12 := blk_frozen BK220.out 12
            have hcz39_0 : w5.cell? ⟨gb221, 0, none⟩ = some (.int .i64 a1_0) := (blk_cell BK221.out 0).trans rfl
            have hcz39_1 : w5.cell? ⟨gb221, 1, none⟩ = some (.string a1_1) := (blk_cell BK221.out 1).trans rfl
            have hcz39_2 : w5.cell? ⟨gb221, 2, none⟩ = some (.int .i64 a1_2) := (blk_cell BK221.out 2).trans rfl
            have hcz39_3 : w5.cell? ⟨gb221, 3, none⟩ = some (.string a1_3) := (blk_cell BK221.out 3).trans rfl
            have hcz39_4 : w5.cell? ⟨gb221, 4, none⟩ = some (.string a1_4) := (blk_cell BK221.out 4).trans rfl
            have hcz39_5 : w5.cell? ⟨gb221, 5, none⟩ = some (.int .i64 a1_5) := (blk_cell BK221.out 5).trans rfl
            have hcz39_6 : w5.cell? ⟨gb221, 6, none⟩ = some (.int .i64 a1_6) := (blk_cell BK221.out 6).trans rfl
            have hcz39_7 : w5.cell? ⟨gb221, 7, none⟩ = some (.int .i64 a1_7) := (blk_cell BK221.out 7).trans rfl
            have hcz39_8 : w5.cell? ⟨gb221, 8, none⟩ = some (.int .i64 a1_8) := (blk_cell BK221.out 8).trans rfl
            have hcz39_9 : w5.cell? ⟨gb221, 9, none⟩ = some (.int .i64 a1_9) := (blk_cell BK221.out 9).trans rfl
            have hcz39_10 : w5.cell? ⟨gb221, 10, none⟩ = some (.slice A1_10 l1_10.length c1_10) := (blk_cell BK221.out 10).trans rfl
            have hcz39_11 : w5.cell? ⟨gb221, 11, none⟩ = some (.int .i64 a1_11) := (blk_cell BK221.out 11).trans rfl
            have hcz39_12 : w5.cell? ⟨gb221, 12, none⟩ = some (.int .i64 a1_12) := (blk_cell BK221.out 12).trans rfl
            have hfz39_0 := blk_frozen BK221.out 0
            have hfz39_1 := blk_frozen BK221.out 1
            have hfz39_2 := blk_frozen BK221.out 2
            have hfz39_3 := blk_frozen BK221.out 3
            have hfz39_4 := blk_frozen BK221.out 4
            have hfz39_5 := blk_frozen BK221.out 5
            have hfz39_6 := blk_frozen BK221.out 6
            have hfz39_7 := blk_frozen BK221.out 7
            have hfz39_8 := blk_frozen BK221.out 8
            have hfz39_9 := blk_frozen BK221.out 9
            have hfz39_10 := blk_frozen BK221.out 10
            have hfz39_11 := blk_frozen BK221.out 11
            have hfz39_12 := blk_frozen BK221.out 12
            go_wp2
            repeat (go_quiet (fail); try go_wp2)
            go_meet
            case rel => exact ⟨_, (true), (by first | rfl | (simp; done) | (simp [*]; done)), H', ⟨by first | omega | exact Nat.le_refl _⟩, ⟨by (with_reducible repeat (first | refine blk_drewN ?_ _ | refine blk_drew ?_ | refine blk_alloc ?_ _)); exact BK220.out⟩, ⟨by (with_reducible repeat (first | refine blk_drewN ?_ _ | refine blk_drew ?_ | refine blk_alloc ?_ _)); exact BK221.out⟩, ⟨by repeat (first | (with_reducible first | exact HB.out | apply below_alloc | apply pw_below_drewN | apply below_drew1 | refine below_set ?_ GE220.out | refine below_set ?_ GE221.out) | exact HB.out)⟩⟩
        · rw [if_neg c8] at H
          have c8b0 : (a0_2 == a1_2) = false := beq_eq_false_iff_ne.mpr c8
          have c8b1 : (a0_2 != a1_2) = true := bne_iff_ne.mpr c8
          have H' := Aside0.mk H
          clear H
          have hnb40 := NB220_221.out
          have hnc40 := NB221_220.out
          have hcz41_0 : w5.cell? ⟨gb220, 0, none⟩ = some (.int .i64 a0_0) := (blk_cell BK220.out 0).trans rfl
          have hcz41_1 : w5.cell? ⟨gb220, 1, none⟩ = some (.string a0_1) := (blk_cell BK220.out 1).trans rfl
          have hcz41_2 : w5.cell? ⟨gb220, 2, none⟩ = some (.int .i64 a0_2) := (blk_cell BK220.out 2).trans rfl
          have hcz41_3 : w5.cell? ⟨gb220, 3, none⟩ = some (.string a0_3) := (blk_cell BK220.out 3).trans rfl
          have hcz41_4 : w5.cell? ⟨gb220, 4, none⟩ = some (.string a0_4) := (blk_cell BK220.out 4).trans rfl
          have hcz41_5 : w5.cell? ⟨gb220, 5, none⟩ = some (.int .i64 a0_5) := (blk_cell BK220.out 5).trans rfl
          have hcz41_6 : w5.cell? ⟨gb220, 6, none⟩ = some (.int .i64 a0_6) := (blk_cell BK220.out 6).trans rfl
          have hcz41_7 : w5.cell? ⟨gb220, 7, none⟩ = some (.int .i64 a0_7) := (blk_cell BK220.out 7).trans rfl
          have hcz41_8 : w5.cell? ⟨gb220, 8, none⟩ = some (.int .i64 a0_8) := (blk_cell BK220.out 8).trans rfl
          have hcz41_9 : w5.cell? ⟨gb220, 9, none⟩ = some (.int .i64 a0_9) := (blk_cell BK220.out 9).trans rfl
          have hcz41_10 : w5.cell? ⟨gb220, 10, none⟩ = some (.slice A0_10 l0_10.length c0_10) := (blk_cell BK220.out 10).trans rfl
          have hcz41_11 : w5.cell? ⟨gb220, 11, none⟩ = some (.int .i64 a0_11) := (blk_cell BK220.out 11).trans rfl
          have hcz41_12 : w5.cell? ⟨gb220, 12, none⟩ = some (.int .i64 a0_12) := (blk_cell BK220.out 12).trans rfl
          have hfz41_0 := blk_frozen BK220.out 0
          have hfz41_1 := blk_frozen BK220.out 1
          have hfz41_2 := blk_frozen BK220.out 2
          have hfz41_3 := blk_frozen BK220.out 3
          have hfz41_4 := blk_frozen BK220.out 4
          have hfz41_5 := blk_frozen BK220.out 5
          have hfz41_6 := blk_frozen BK220.out 6
          have hfz41_7 := blk_frozen BK220.out 7
          have hfz41_8 := blk_frozen BK220.out 8
          have hfz41_9 := blk_frozen BK220.out 9
          have hfz41_10 := blk_frozen BK220.out 10
          have hfz41_11 := blk_frozen BK220.out 11
          have hfz41_12 := blk_frozen BK220.out 12
          have hcz42_0 : w5.cell? ⟨gb221, 0, none⟩ = some (.int .i64 a1_0) := (blk_cell BK221.out 0).trans rfl
          have hcz42_1 : w5.cell? ⟨gb221, 1, none⟩ = some (.string a1_1) := (blk_cell BK221.out 1).trans rfl
          have hcz42_2 : w5.cell? ⟨gb221, 2, none⟩ = some (.int .i64 a1_2) := (blk_cell BK221.out 2).trans rfl
          have hcz42_3 : w5.cell? ⟨gb221, 3, none⟩ = some (.string a1_3) := (blk_cell BK221.out 3).trans rfl
          have hcz42_4 : w5.cell? ⟨gb221, 4, none⟩ = some (.string a1_4) := (blk_cell BK221.out 4).trans rfl
          have hcz42_5 : w5.cell? ⟨gb221, 5, none⟩ = some (.int .i64 a1_5) := (blk_cell BK221.out 5).trans rfl
          have hcz42_6 : w5.cell? ⟨gb221, 6, none⟩ = some (.int .i64 a1_6) := (blk_cell BK221.out 6).trans rfl
          have hcz42_7 : w5.cell? ⟨gb221, 7, none⟩ = some (.int .i64 a1_7) := (blk_cell BK221.out 7).trans rfl
          have hcz42_8 : w5.cell? ⟨gb221, 8, none⟩ = some (.int .i64 a1_8) := (blk_cell BK221.out 8).trans rfl
          have hcz42_9 : w5.cell? ⟨gb221, 9, none⟩ = some (.int .i64 a1_9) := (blk_cell BK221.out 9).trans rfl
          have hcz42_10 : w5.cell? ⟨gb221, 10, none⟩ = some (.slice A1_10 l1_10.length c1_10) := (blk_cell BK221.out 10).trans rfl
          have hcz42_11 : w5.cell? ⟨gb221, 11, none⟩ = some (.int .i64 a1_11) := (blk_cell BK221.out 11).trans rfl
          have hcz42_12 : w5.cell? ⟨gb221, 12, none⟩ = some (.int .i64 a1_12) := (blk_cell BK221.out 12).trans rfl
          have hfz42_0 := blk_frozen BK221.out 0
          have hfz42_1 := blk_frozen BK221.out 1
          have hfz42_2 := blk_frozen BK221.out 2
          have hfz42_3 := blk_frozen BK221.out 3
          have hfz42_4 := blk_frozen BK221.out 4
          have hfz42_5 := blk_frozen BK221.out 5
          have hfz42_6 := blk_frozen BK221.out 6
          have hfz42_7 := blk_frozen BK221.out 7
          have hfz42_8 := blk_frozen BK221.out 8
          have hfz42_9 := blk_frozen BK221.out 9
          have hfz42_10 := blk_frozen BK221.out 10
          have hfz42_11 := blk_frozen BK221.out 11
          have hfz42_12 := blk_frozen BK221.out 12
          go_wp2
          repeat (go_quiet (fail); try go_wp2)
          go_meet
          case rel => exact ⟨_, (true), (by first | rfl | (simp; done) | (simp [*]; done)), H', ⟨by first | omega | exact Nat.le_refl _⟩, ⟨by (with_reducible repeat (first | refine blk_drewN ?_ _ | refine blk_drew ?_ | refine blk_alloc ?_ _)); exact BK220.out⟩, ⟨by (with_reducible repeat (first | refine blk_drewN ?_ _ | refine blk_drew ?_ | refine blk_alloc ?_ _)); exact BK221.out⟩, ⟨by repeat (first | (with_reducible first | exact HB.out | apply below_alloc | apply pw_below_drewN | apply below_drew1 | refine below_set ?_ GE220.out | refine below_set ?_ GE221.out) | exact HB.out)⟩⟩
      · rw [if_neg c7] at H
        have c7b0 : (a0_1.toList == a1_1.toList) = false := beq_eq_false_iff_ne.mpr c7
        have c7b1 : (a0_1.toList != a1_1.toList) = true := bne_iff_ne.mpr c7
        have H' := Aside0.mk H
        clear H
        have hnb43 := NB220_221.out
        have hnc43 := NB221_220.out
        have hcz44_0 : w5.cell? ⟨gb220, 0, none⟩ = some (.int .i64 a0_0) := (blk_cell BK220.out 0).trans rfl
        have hcz44_1 : w5.cell? ⟨gb220, 1, none⟩ = some (.string a0_1) := (blk_cell BK220.out 1).trans rfl
        have hcz44_2 : w5.cell? ⟨gb220, 2, none⟩ = some (.int .i64 a0_2) := (blk_cell BK220.out 2).trans rfl
        have hcz44_3 : w5.cell? ⟨gb220, 3, none⟩ = some (.string a0_3) := (blk_cell BK220.out 3).trans rfl
        have hcz44_4 : w5.cell? ⟨gb220, 4, none⟩ = some (.string a0_4) := (blk_cell BK220.out 4).trans rfl
        have hcz44_5 : w5.cell? ⟨gb220, 5, none⟩ = some (.int .i64 a0_5) := (blk_cell BK220.out 5).trans rfl
        have hcz44_6 : w5.cell? ⟨gb220, 6, none⟩ = some (.int .i64 a0_6) := (blk_cell BK220.out 6).trans rfl
        have hcz44_7 : w5.cell? ⟨gb220, 7, none⟩ = some (.int .i64 a0_7) := (blk_cell BK220.out 7).trans rfl
        have hcz44_8 : w5.cell? ⟨gb220, 8, none⟩ = some (.int .i64 a0_8) := (blk_cell BK220.out 8).trans rfl
        have hcz44_9 : w5.cell? ⟨gb220, 9, none⟩ = some (.int .i64 a0_9) := (blk_cell BK220.out 9).trans rfl
        have hcz44_10 : w5.cell? ⟨gb220, 10, none⟩ = some (.slice A0_10 l0_10.length c0_10) := (blk_cell BK220.out 10).trans rfl
        have hcz44_11 : w5.cell? ⟨gb220, 11, none⟩ = some (.int .i64 a0_11) := (blk_cell BK220.out 11).trans rfl
        have hcz44_12 : w5.cell? ⟨gb220, 12, none⟩ = some (.int .i64 a0_12) := (blk_cell BK220.out 12).trans rfl
        have hfz44_0 := blk_frozen BK220.out 0
        have hfz44_1 := blk_frozen BK220.out 1
        have hfz44_2 := blk_frozen BK220.out 2
        have hfz44_3 := blk_frozen BK220.out 3
        have hfz44_4 := blk_frozen BK220.out 4
        have hfz44_5 := blk_frozen BK220.out 5
        have hfz44_6 := blk_frozen BK220.out 6
        have hfz44_7 := blk_frozen BK220.out 7
        have hfz44_8 := blk_frozen BK220.out 8
        have hfz44_9 := blk_frozen BK220.out 9
        have hfz44_10 := blk_frozen BK220.out 10
        have hfz44_11 := blk_frozen BK220.out 11
        have hfz44_12 := blk_frozen BK220.out 12
        have hcz45_0 : w5.cell? ⟨gb221, 0, none⟩ = some (.int .i64 a1_0) := (blk_cell BK221.out 0).trans rfl
        have hcz45_1 : w5.cell? ⟨gb221, 1, none⟩ = some (.string a1_1) := (blk_cell BK221.out 1).trans rfl
        have hcz45_2 : w5.cell? ⟨gb221, 2, none⟩ = some (.int .i64 a1_2) := (blk_cell BK221.out 2).trans rfl
        have hcz45_3 : w5.cell? ⟨gb221, 3, none⟩ = some (.string a1_3) := (blk_cell BK221.out 3).trans rfl
        have hcz45_4 : w5.cell? ⟨gb221, 4, none⟩ = some (.string a1_4) := (blk_cell BK221.out 4).trans rfl
        have hcz45_5 : w5.cell? ⟨gb221, 5, none⟩ = some (.int .i64 a1_5) := (blk_cell BK221.out 5).trans rfl
        have hcz45_6 : w5.cell? ⟨gb221, 6, none⟩ = some (.int .i64 a1_6) := (blk_cell BK221.out 6).trans rfl
        have hcz45_7 : w5.cell? ⟨gb221, 7, none⟩ = some (.int .i64 a1_7) := (blk_cell BK221.out 7).trans rfl
        have hcz45_8 : w5.cell? ⟨gb221, 8, none⟩ = some (.int .i64 a1_8) := (blk_cell BK221.out 8).trans rfl
        have hcz45_9 : w5.cell? ⟨gb221, 9, none⟩ = some (.int .i64 a1_9) := (blk_cell BK221.out 9).trans rfl
        have hcz45_10 : w5.cell? ⟨gb221, 10, none⟩ = some (.slice A1_10 l1_10.length c1_10) := (blk_cell BK221.out 10).trans rfl
        have hcz45_11 : w5.cell? ⟨gb221, 11, none⟩ = some (.int .i64 a1_11) := (blk_cell BK221.out 11).trans rfl
        have hcz45_12 : w5.cell? ⟨gb221, 12, none⟩ = some (.int .i64 a1_12) := (blk_cell BK221.out 12).trans rfl
        have hfz45_0 := blk_frozen BK221.out 0
        have hfz45_1 := blk_frozen BK221.out 1
        have hfz45_2 := blk_frozen BK221.out 2
        have hfz45_3 := blk_frozen BK221.out 3
        have hfz45_4 := blk_frozen BK221.out 4
        have hfz45_5 := blk_frozen BK221.out 5
        have hfz45_6 := blk_frozen BK221.out 6
        have hfz45_7 := blk_frozen BK221.out 7
        have hfz45_8 := blk_frozen BK221.out 8
        have hfz45_9 := blk_frozen BK221.out 9
        have hfz45_10 := blk_frozen BK221.out 10
        have hfz45_11 := blk_frozen BK221.out 11
        have hfz45_12 := blk_frozen BK221.out 12
        go_wp2
        repeat (go_quiet (fail); try go_wp2)
        go_meet
        case rel => exact ⟨_, (true), (by first | rfl | (simp; done) | (simp [*]; done)), H', ⟨by first | omega | exact Nat.le_refl _⟩, ⟨by (with_reducible repeat (first | refine blk_drewN ?_ _ | refine blk_drew ?_ | refine blk_alloc ?_ _)); exact BK220.out⟩, ⟨by (with_reducible repeat (first | refine blk_drewN ?_ _ | refine blk_drew ?_ | refine blk_alloc ?_ _)); exact BK221.out⟩, ⟨by repeat (first | (with_reducible first | exact HB.out | apply below_alloc | apply pw_below_drewN | apply below_drew1 | refine below_set ?_ GE220.out | refine below_set ?_ GE221.out) | exact HB.out)⟩⟩
    · rw [if_neg c6] at H
      have c6b0 : (a0_0 == a1_0) = false := beq_eq_false_iff_ne.mpr c6
      have c6b1 : (a0_0 != a1_0) = true := bne_iff_ne.mpr c6
      (first | rw [c6b0] | (simp only [i64_w, i32_w]; rw [c6b0]) | skip)
      have H' := Aside0.mk H
      clear H
      have hnb46 := NB220_221.out
      have hnc46 := NB221_220.out
      have hcz47_0 : w5.cell? ⟨gb220, 0, none⟩ = some (.int .i64 a0_0) := (blk_cell BK220.out 0).trans rfl
      have hcz47_1 : w5.cell? ⟨gb220, 1, none⟩ = some (.string a0_1) := (blk_cell BK220.out 1).trans rfl
      have hcz47_2 : w5.cell? ⟨gb220, 2, none⟩ = some (.int .i64 a0_2) := (blk_cell BK220.out 2).trans rfl
      have hcz47_3 : w5.cell? ⟨gb220, 3, none⟩ = some (.string a0_3) := (blk_cell BK220.out 3).trans rfl
      have hcz47_4 : w5.cell? ⟨gb220, 4, none⟩ = some (.string a0_4) := (blk_cell BK220.out 4).trans rfl
      have hcz47_5 : w5.cell? ⟨gb220, 5, none⟩ = some (.int .i64 a0_5) := (blk_cell BK220.out 5).trans rfl
      have hcz47_6 : w5.cell? ⟨gb220, 6, none⟩ = some (.int .i64 a0_6) := (blk_cell BK220.out 6).trans rfl
      have hcz47_7 : w5.cell? ⟨gb220, 7, none⟩ = some (.int .i64 a0_7) := (blk_cell BK220.out 7).trans rfl
      have hcz47_8 : w5.cell? ⟨gb220, 8, none⟩ = some (.int .i64 a0_8) := (blk_cell BK220.out 8).trans rfl
      have hcz47_9 : w5.cell? ⟨gb220, 9, none⟩ = some (.int .i64 a0_9) := (blk_cell BK220.out 9).trans rfl
      have hcz47_10 : w5.cell? ⟨gb220, 10, none⟩ = some (.slice A0_10 l0_10.length c0_10) := (blk_cell BK220.out 10).trans rfl
      have hcz47_11 : w5.cell? ⟨gb220, 11, none⟩ = some (.int .i64 a0_11) := (blk_cell BK220.out 11).trans rfl
      have hcz47_12 : w5.cell? ⟨gb220, 12, none⟩ = some (.int .i64 a0_12) := (blk_cell BK220.out 12).trans rfl
      have hfz47_0 := blk_frozen BK220.out 0
      have hfz47_1 := blk_frozen BK220.out 1
      have hfz47_2 := blk_frozen BK220.out 2
      have hfz47_3 := blk_frozen BK220.out 3
      have hfz47_4 := blk_frozen BK220.out 4
      have hfz47_5 := blk_frozen BK220.out 5
      have hfz47_6 := blk_frozen BK220.out 6
      have hfz47_7 := blk_frozen BK220.out 7
      have hfz47_8 := blk_frozen BK220.out 8
      have hfz47_9 := blk_frozen BK220.out 9
      have hfz47_10 := blk_frozen BK220.out 10
      have hfz47_11 := blk_frozen BK220.out 11
      have hfz47_12 := blk_frozen BK220.out 12
      have hcz48_0 : w5.cell? ⟨gb221, 0, none⟩ = some (.int .i64 a1_0) := (blk_cell BK221.out 0).trans rfl
      have hcz48_1 : w5.cell? ⟨gb221, 1, none⟩ = some (.string a1_1) := (blk_cell BK221.out 1).trans rfl
      have hcz48_2 : w5.cell? ⟨gb221, 2, none⟩ = some (.int .i64 a1_2) := (blk_cell BK221.out 2).trans rfl
      have hcz48_3 : w5.cell? ⟨gb221, 3, none⟩ = some (.string a1_3) := (blk_cell BK221.out 3).trans rfl
      have hcz48_4 : w5.cell? ⟨gb221, 4, none⟩ = some (.string a1_4) := (blk_cell BK221.out 4).trans rfl
      have hcz48_5 : w5.cell? ⟨gb221, 5, none⟩ = some (.int .i64 a1_5) := (blk_cell BK221.out 5).trans rfl
      have hcz48_6 : w5.cell? ⟨gb221, 6, none⟩ = some (.int .i64 a1_6) := (blk_cell BK221.out 6).trans rfl
      have hcz48_7 : w5.cell? ⟨gb221, 7, none⟩ = some (.int .i64 a1_7) := (blk_cell BK221.out 7).trans rfl
      have hcz48_8 : w5.cell? ⟨gb221, 8, none⟩ = some (.int .i64 a1_8) := (blk_cell BK221.out 8).trans rfl
      have hcz48_9 : w5.cell? ⟨gb221, 9, none⟩ = some (.int .i64 a1_9) := (blk_cell BK221.out 9).trans rfl
      have hcz48_10 : w5.cell? ⟨gb221, 10, none⟩ = some (.slice A1_10 l1_10.length c1_10) := (blk_cell BK221.out 10).trans rfl
      have hcz48_11 : w5.cell? ⟨gb221, 11, none⟩ = some (.int .i64 a1_11) := (blk_cell BK221.out 11).trans rfl
      have hcz48_12 : w5.cell? ⟨gb221, 12, none⟩ = some (.int .i64 a1_12) := (blk_cell BK221.out 12).trans rfl
      have hfz48_0 := blk_frozen BK221.out 0
      have hfz48_1 := blk_frozen BK221.out 1
      have hfz48_2 := blk_frozen BK221.out 2
      have hfz48_3 := blk_frozen BK221.out 3
      have hfz48_4 := blk_frozen BK221.out 4
      have hfz48_5 := blk_frozen BK221.out 5
      have hfz48_6 := blk_frozen BK221.out 6
      have hfz48_7 := blk_frozen BK221.out 7
      have hfz48_8 := blk_frozen BK221.out 8
      have hfz48_9 := blk_frozen BK221.out 9
      have hfz48_10 := blk_frozen BK221.out 10
      have hfz48_11 := blk_frozen BK221.out 11
      have hfz48_12 := blk_frozen BK221.out 12
      go_wp2
      repeat (go_quiet (fail); try go_wp2)
      go_meet
      case rel => exact ⟨_, (true), (by first | rfl | (simp; done) | (simp [*]; done)), H', ⟨by first | omega | exact Nat.le_refl _⟩, ⟨by (with_reducible repeat (first | refine blk_drewN ?_ _ | refine blk_drew ?_ | refine blk_alloc ?_ _)); exact BK220.out⟩, ⟨by (with_reducible repeat (first | refine blk_drewN ?_ _ | refine blk_drew ?_ | refine blk_alloc ?_ _)); exact BK221.out⟩, ⟨by repeat (first | (with_reducible first | exact HB.out | apply below_alloc | apply pw_below_drewN | apply below_drew1 | refine below_set ?_ GE220.out | refine below_set ?_ GE221.out) | exact HB.out)⟩⟩
  case rest =>
    clear HC3
    try clear c1
    try clear c2
    try clear p2
    try clear c3
    try clear c4
    try clear c6
    try clear c6b0
    try clear c6b1
    try clear c7
    try clear c7b0
    try clear c7b1
    try clear c8
    try clear c8b0
    try clear c8b1
    try clear c9
    try clear c9b0
    try clear c9b1
    try clear c10
    try clear c10b0
    try clear c10b1
    try clear c15
    try clear c15b0
    try clear c15b1
    try clear c16
    try clear c16b0
    try clear c16b1
    try clear c17
    try clear c17b0
    try clear c17b1
    try clear c18
    try clear c18b0
    try clear c22
    try clear c25
    try clear c28
    try clear c31
    try clear c34
    try clear c37
    try clear c40
    try clear c43
    try clear c46
    try clear hcz21_0
    try clear hcz21_1
    try clear hcz21_10
    try clear hcz21_11
    try clear hcz21_12
    try clear hcz21_2
    try clear hcz21_3
    try clear hcz21_4
    try clear hcz21_5
    try clear hcz21_6
    try clear hcz21_7
    try clear hcz21_8
    try clear hcz21_9
    try clear hcz23_0
    try clear hcz23_1
    try clear hcz23_10
    try clear hcz23_11
    try clear hcz23_12
    try clear hcz23_2
    try clear hcz23_3
    try clear hcz23_4
    try clear hcz23_5
    try clear hcz23_6
    try clear hcz23_7
    try clear hcz23_8
    try clear hcz23_9
    try clear hcz24_0
    try clear hcz24_1
    try clear hcz24_10
    try clear hcz24_11
    try clear hcz24_12
    try clear hcz24_2
    try clear hcz24_3
    try clear hcz24_4
    try clear hcz24_5
    try clear hcz24_6
    try clear hcz24_7
    try clear hcz24_8
    try clear hcz24_9
    try clear hcz26_0
    try clear hcz26_1
    try clear hcz26_10
    try clear hcz26_11
    try clear hcz26_12
    try clear hcz26_2
    try clear hcz26_3
    try clear hcz26_4
    try clear hcz26_5
    try clear hcz26_6
    try clear hcz26_7
    try clear hcz26_8
    try clear hcz26_9
    try clear hcz27_0
    try clear hcz27_1
    try clear hcz27_10
    try clear hcz27_11
    try clear hcz27_12
    try clear hcz27_2
    try clear hcz27_3
    try clear hcz27_4
    try clear hcz27_5
    try clear hcz27_6
    try clear hcz27_7
    try clear hcz27_8
    try clear hcz27_9
    try clear hcz29_0
    try clear hcz29_1
    try clear hcz29_10
    try clear hcz29_11
    try clear hcz29_12
    try clear hcz29_2
    try clear hcz29_3
    try clear hcz29_4
    try clear hcz29_5
    try clear hcz29_6
    try clear hcz29_7
    try clear hcz29_8
    try clear hcz29_9
    try clear hcz30_0
    try clear hcz30_1
    try clear hcz30_10
    try clear hcz30_11
    try clear hcz30_12
    try clear hcz30_2
    try clear hcz30_3
    try clear hcz30_4
    try clear hcz30_5
    try clear hcz30_6
    try clear hcz30_7
    try clear hcz30_8
    try clear hcz30_9
    try clear hcz32_0
    try clear hcz32_1
    try clear hcz32_10
    try clear hcz32_11
    try clear hcz32_12
    try clear hcz32_2
    try clear hcz32_3
    try clear hcz32_4
    try clear hcz32_5
    try clear hcz32_6
    try clear hcz32_7
    try clear hcz32_8
    try clear hcz32_9
    try clear hcz33_0
    try clear hcz33_1
    try clear hcz33_10
    try clear hcz33_11
    try clear hcz33_12
    try clear hcz33_2
    try clear hcz33_3
    try clear hcz33_4
    try clear hcz33_5
    try clear hcz33_6
    try clear hcz33_7
    try clear hcz33_8
    try clear hcz33_9
    try clear hcz35_0
    try clear hcz35_1
    try clear hcz35_10
    try clear hcz35_11
    try clear hcz35_12
    try clear hcz35_2
    try clear hcz35_3
    try clear hcz35_4
    try clear hcz35_5
    try clear hcz35_6
    try clear hcz35_7
    try clear hcz35_8
    try clear hcz35_9
    try clear hcz36_0
    try clear hcz36_1
    try clear hcz36_10
    try clear hcz36_11
    try clear hcz36_12
    try clear hcz36_2
    try clear hcz36_3
    try clear hcz36_4
    try clear hcz36_5
    try clear hcz36_6
    try clear hcz36_7
    try clear hcz36_8
    try clear hcz36_9
    try clear hcz38_0
    try clear hcz38_1
    try clear hcz38_10
    try clear hcz38_11
    try clear hcz38_12
    try clear hcz38_2
    try clear hcz38_3
    try clear hcz38_4
    try clear hcz38_5
    try clear hcz38_6
    try clear hcz38_7
    try clear hcz38_8
    try clear hcz38_9
    try clear hcz39_0
    try clear hcz39_1
    try clear hcz39_10
    try clear hcz39_11
    try clear hcz39_12
    try clear hcz39_2
    try clear hcz39_3
    try clear hcz39_4
    try clear hcz39_5
    try clear hcz39_6
    try clear hcz39_7
    try clear hcz39_8
    try clear hcz39_9
    try clear hcz41_0
    try clear hcz41_1
    try clear hcz41_10
    try clear hcz41_11
    try clear hcz41_12
    try clear hcz41_2
    try clear hcz41_3
    try clear hcz41_4
    try clear hcz41_5
    try clear hcz41_6
    try clear hcz41_7
    try clear hcz41_8
    try clear hcz41_9
    try clear hcz42_0
    try clear hcz42_1
    try clear hcz42_10
    try clear hcz42_11
    try clear hcz42_12
    try clear hcz42_2
    try clear hcz42_3
    try clear hcz42_4
    try clear hcz42_5
    try clear hcz42_6
    try clear hcz42_7
    try clear hcz42_8
    try clear hcz42_9
    try clear hcz44_0
    try clear hcz44_1
    try clear hcz44_10
    try clear hcz44_11
    try clear hcz44_12
    try clear hcz44_2
    try clear hcz44_3
    try clear hcz44_4
    try clear hcz44_5
    try clear hcz44_6
    try clear hcz44_7
    try clear hcz44_8
    try clear hcz44_9
    try clear hcz45_0
    try clear hcz45_1
    try clear hcz45_10
    try clear hcz45_11
    try clear hcz45_12
    try clear hcz45_2
    try clear hcz45_3
    try clear hcz45_4
    try clear hcz45_5
    try clear hcz45_6
    try clear hcz45_7
    try clear hcz45_8
    try clear hcz45_9
    try clear hcz47_0
    try clear hcz47_1
    try clear hcz47_10
    try clear hcz47_11
    try clear hcz47_12
    try clear hcz47_2
    try clear hcz47_3
    try clear hcz47_4
    try clear hcz47_5
    try clear hcz47_6
    try clear hcz47_7
    try clear hcz47_8
    try clear hcz47_9
    try clear hcz48_0
    try clear hcz48_1
    try clear hcz48_10
    try clear hcz48_11
    try clear hcz48_12
    try clear hcz48_2
    try clear hcz48_3
    try clear hcz48_4
    try clear hcz48_5
    try clear hcz48_6
    try clear hcz48_7
    try clear hcz48_8
    try clear hcz48_9
    try clear hfz21_0
    try clear hfz21_1
    try clear hfz21_10
    try clear hfz21_11
    try clear hfz21_12
    try clear hfz21_2
    try clear hfz21_3
    try clear hfz21_4
    try clear hfz21_5
    try clear hfz21_6
    try clear hfz21_7
    try clear hfz21_8
    try clear hfz21_9
    try clear hfz23_0
    try clear hfz23_1
    try clear hfz23_10
    try clear hfz23_11
    try clear hfz23_12
    try clear hfz23_2
    try clear hfz23_3
    try clear hfz23_4
    try clear hfz23_5
    try clear hfz23_6
    try clear hfz23_7
    try clear hfz23_8
    try clear hfz23_9
    try clear hfz24_0
    try clear hfz24_1
    try clear hfz24_10
    try clear hfz24_11
    try clear hfz24_12
    try clear hfz24_2
    try clear hfz24_3
    try clear hfz24_4
    try clear hfz24_5
    try clear hfz24_6
    try clear hfz24_7
    try clear hfz24_8
    try clear hfz24_9
    try clear hfz26_0
    try clear hfz26_1
    try clear hfz26_10
    try clear hfz26_11
    try clear hfz26_12
    try clear hfz26_2
    try clear hfz26_3
    try clear hfz26_4
    try clear hfz26_5
    try clear hfz26_6
    try clear hfz26_7
    try clear hfz26_8
    try clear hfz26_9
    try clear hfz27_0
    try clear hfz27_1
    try clear hfz27_10
    try clear hfz27_11
    try clear hfz27_12
    try clear hfz27_2
    try clear hfz27_3
    try clear hfz27_4
    try clear hfz27_5
    try clear hfz27_6
    try clear hfz27_7
    try clear hfz27_8
    try clear hfz27_9
    try clear hfz29_0
    try clear hfz29_1
    try clear hfz29_10
    try clear hfz29_11
    try clear hfz29_12
    try clear hfz29_2
    try clear hfz29_3
    try clear hfz29_4
    try clear hfz29_5
    try clear hfz29_6
    try clear hfz29_7
    try clear hfz29_8
    try clear hfz29_9
    try clear hfz30_0
    try clear hfz30_1
    try clear hfz30_10
    try clear hfz30_11
    try clear hfz30_12
    try clear hfz30_2
    try clear hfz30_3
    try clear hfz30_4
    try clear hfz30_5
    try clear hfz30_6
    try clear hfz30_7
    try clear hfz30_8
    try clear hfz30_9
    try clear hfz32_0
    try clear hfz32_1
    try clear hfz32_10
    try clear hfz32_11
    try clear hfz32_12
    try clear hfz32_2
    try clear hfz32_3
    try clear hfz32_4
    try clear hfz32_5
    try clear hfz32_6
    try clear hfz32_7
    try clear hfz32_8
    try clear hfz32_9
    try clear hfz33_0
    try clear hfz33_1
    try clear hfz33_10
    try clear hfz33_11
    try clear hfz33_12
    try clear hfz33_2
    try clear hfz33_3
    try clear hfz33_4
    try clear hfz33_5
    try clear hfz33_6
    try clear hfz33_7
    try clear hfz33_8
    try clear hfz33_9
    try clear hfz35_0
    try clear hfz35_1
    try clear hfz35_10
    try clear hfz35_11
    try clear hfz35_12
    try clear hfz35_2
    try clear hfz35_3
    try clear hfz35_4
    try clear hfz35_5
    try clear hfz35_6
    try clear hfz35_7
    try clear hfz35_8
    try clear hfz35_9
    try clear hfz36_0
    try clear hfz36_1
    try clear hfz36_10
    try clear hfz36_11
    try clear hfz36_12
    try clear hfz36_2
    try clear hfz36_3
    try clear hfz36_4
    try clear hfz36_5
    try clear hfz36_6
    try clear hfz36_7
    try clear hfz36_8
    try clear hfz36_9
    try clear hfz38_0
    try clear hfz38_1
    try clear hfz38_10
    try clear hfz38_11
    try clear hfz38_12
    try clear hfz38_2
    try clear hfz38_3
    try clear hfz38_4
    try clear hfz38_5
    try clear hfz38_6
    try clear hfz38_7
    try clear hfz38_8
    try clear hfz38_9
    try clear hfz39_0
    try clear hfz39_1
    try clear hfz39_10
    try clear hfz39_11
    try clear hfz39_12
    try clear hfz39_2
    try clear hfz39_3
    try clear hfz39_4
    try clear hfz39_5
    try clear hfz39_6
    try clear hfz39_7
    try clear hfz39_8
    try clear hfz39_9
    try clear hfz41_0
    try clear hfz41_1
    try clear hfz41_10
    try clear hfz41_11
    try clear hfz41_12
    try clear hfz41_2
    try clear hfz41_3
    try clear hfz41_4
    try clear hfz41_5
    try clear hfz41_6
    try clear hfz41_7
    try clear hfz41_8
    try clear hfz41_9
    try clear hfz42_0
    try clear hfz42_1
    try clear hfz42_10
    try clear hfz42_11
    try clear hfz42_12
    try clear hfz42_2
    try clear hfz42_3
    try clear hfz42_4
    try clear hfz42_5
    try clear hfz42_6
    try clear hfz42_7
    try clear hfz42_8
    try clear hfz42_9
    try clear hfz44_0
    try clear hfz44_1
    try clear hfz44_10
    try clear hfz44_11
    try clear hfz44_12
    try clear hfz44_2
    try clear hfz44_3
    try clear hfz44_4
    try clear hfz44_5
    try clear hfz44_6
    try clear hfz44_7
    try clear hfz44_8
    try clear hfz44_9
    try clear hfz45_0
    try clear hfz45_1
    try clear hfz45_10
    try clear hfz45_11
    try clear hfz45_12
    try clear hfz45_2
    try clear hfz45_3
    try clear hfz45_4
    try clear hfz45_5
    try clear hfz45_6
    try clear hfz45_7
    try clear hfz45_8
    try clear hfz45_9
    try clear hfz47_0
    try clear hfz47_1
    try clear hfz47_10
    try clear hfz47_11
    try clear hfz47_12
    try clear hfz47_2
    try clear hfz47_3
    try clear hfz47_4
    try clear hfz47_5
    try clear hfz47_6
    try clear hfz47_7
    try clear hfz47_8
    try clear hfz47_9
    try clear hfz48_0
    try clear hfz48_1
    try clear hfz48_10
    try clear hfz48_11
    try clear hfz48_12
    try clear hfz48_2
    try clear hfz48_3
    try clear hfz48_4
    try clear hfz48_5
    try clear hfz48_6
    try clear hfz48_7
    try clear hfz48_8
    try clear hfz48_9
    obtain ⟨kq, x82_2, rfl, HA, HJ2, BK220, BK221, HB⟩ := hcut
    cases kq with
    | zero => exact absurd HA.out (by simp [hushref16_Same.j0])
    | succ kj2 =>
      have H := HA.out
      clear HA
      simp only [hushref16_Same.j0] at H
      by_cases c49 : x82_2 = true
      · subst c49
        have H1 : (some false) = some r := by rw [if_pos rfl] at H; exact H
        clear H
        have H := H1
        clear H1
        obtain rfl := Option.some.inj H
        go_wp2
        repeat (go_quiet (fail); try go_wp2)
        go_ret
        exact ⟨by first | rfl | (simp [errW_none, errW_some] <;> rfl) | (simp [*, errW_none, errW_some] <;> rfl), by repeat (first | (with_reducible first | exact HB.out | apply below_alloc | apply pw_below_drewN | apply below_drew1 | refine below_set ?_ GE220.out | refine below_set ?_ GE221.out) | exact HB.out)⟩
      · replace c49 := Bool.eq_false_iff.mpr c49
        subst c49
        have H1 : (hushref16_Same.l0 kj2 (l0_10.length : Int) 0 a0_0 a0_1 a0_2 a0_3 a0_4 a0_5 a0_6 a0_7 a0_8 a0_9 l0_10 a0_11 a0_12 a1_0 a1_1 a1_2 a1_3 a1_4 a1_5 a1_6 a1_7 a1_8 a1_9 l1_10 a1_11 a1_12) = some r := by rw [if_neg (show ¬ (false = true) by decide)] at H; exact H
        clear H
        have H := H1
        clear H1
        have H' := Aside0.mk H
        clear H
        have hnb50 := NB220_221.out
        have hnc50 := NB221_220.out
        have hcz51_0 : wc.cell? ⟨gb220, 0, none⟩ = some (.int .i64 a0_0) := (blk_cell BK220.out 0).trans rfl
        have hcz51_1 : wc.cell? ⟨gb220, 1, none⟩ = some (.string a0_1) := (blk_cell BK220.out 1).trans rfl
        have hcz51_2 : wc.cell? ⟨gb220, 2, none⟩ = some (.int .i64 a0_2) := (blk_cell BK220.out 2).trans rfl
        have hcz51_3 : wc.cell? ⟨gb220, 3, none⟩ = some (.string a0_3) := (blk_cell BK220.out 3).trans rfl
        have hcz51_4 : wc.cell? ⟨gb220, 4, none⟩ = some (.string a0_4) := (blk_cell BK220.out 4).trans rfl
        have hcz51_5 : wc.cell? ⟨gb220, 5, none⟩ = some (.int .i64 a0_5) := (blk_cell BK220.out 5).trans rfl
        have hcz51_6 : wc.cell? ⟨gb220, 6, none⟩ = some (.int .i64 a0_6) := (blk_cell BK220.out 6).trans rfl
        have hcz51_7 : wc.cell? ⟨gb220, 7, none⟩ = some (.int .i64 a0_7) := (blk_cell BK220.out 7).trans rfl
        have hcz51_8 : wc.cell? ⟨gb220, 8, none⟩ = some (.int .i64 a0_8) := (blk_cell BK220.out 8).trans rfl
        have hcz51_9 : wc.cell? ⟨gb220, 9, none⟩ = some (.int .i64 a0_9) := (blk_cell BK220.out 9).trans rfl
        have hcz51_10 : wc.cell? ⟨gb220, 10, none⟩ = some (.slice A0_10 l0_10.length c0_10) := (blk_cell BK220.out 10).trans rfl
        have hcz51_11 : wc.cell? ⟨gb220, 11, none⟩ = some (.int .i64 a0_11) := (blk_cell BK220.out 11).trans rfl
        have hcz51_12 : wc.cell? ⟨gb220, 12, none⟩ = some (.int .i64 a0_12) := (blk_cell BK220.out 12).trans rfl
        have hfz51_0 := blk_frozen BK220.out 0
        have hfz51_1 := blk_frozen BK220.out 1
        have hfz51_2 := blk_frozen BK220.out 2
        have hfz51_3 := blk_frozen BK220.out 3
        have hfz51_4 := blk_frozen BK220.out 4
        have hfz51_5 := blk_frozen BK220.out 5
        have hfz51_6 := blk_frozen BK220.out 6
        have hfz51_7 := blk_frozen BK220.out 7
        have hfz51_8 := blk_frozen BK220.out 8
        have hfz51_9 := blk_frozen BK220.out 9
        have hfz51_10 := blk_frozen BK220.out 10
        have hfz51_11 := blk_frozen BK220.out 11
        have hfz51_12 := blk_frozen BK220.out 12
        go_wp2
        repeat (go_quiet (fail); try go_wp2)
        go_loopg [86] kj2 (fun kq v86 w' => ∃ (x86_2 : Int), v86 = .int .i64 x86_2 ∧ Aside0 (hushref16_Same.l0 kq (l0_10.length : Int) x86_2 a0_0 a0_1 a0_2 a0_3 a0_4 a0_5 a0_6 a0_7 a0_8 a0_9 l0_10 a0_11 a0_12 a1_0 a1_1 a1_2 a1_3 a1_4 a1_5 a1_6 a1_7 a1_8 a1_9 l1_10 a1_11 a1_12 = some r) ∧ Aside0 (kq ≤ kj2) ∧ Aside0 (w'.heap[gb220]? = some (.cells #[.int .i64 a0_0, .string a0_1, .int .i64 a0_2, .string a0_3, .string a0_4, .int .i64 a0_5, .int .i64 a0_6, .int .i64 a0_7, .int .i64 a0_8, .int .i64 a0_9, (.slice A0_10 l0_10.length c0_10), .int .i64 a0_11, .int .i64 a0_12] 40 (0, 0))) ∧ Aside0 (w'.heap[gb221]? = some (.cells #[.int .i64 a1_0, .string a1_1, .int .i64 a1_2, .string a1_3, .string a1_4, .int .i64 a1_5, .int .i64 a1_6, .int .i64 a1_7, .int .i64 a1_8, .int .i64 a1_9, (.slice A1_10 l1_10.length c1_10), .int .i64 a1_11, .int .i64 a1_12] 40 (0, 0))) ∧ Aside0 (Below w.heap.size w w'))
        case atStart => exact ⟨(0), (by first | rfl | (simp; done) | (simp [*]; done)), H', ⟨Nat.le_refl _⟩, ⟨by (with_reducible repeat (first | refine blk_drewN ?_ _ | refine blk_drew ?_ | refine blk_alloc ?_ _)); exact BK220.out⟩, ⟨by (with_reducible repeat (first | refine blk_drewN ?_ _ | refine blk_drew ?_ | refine blk_alloc ?_ _)); exact BK221.out⟩, ⟨by repeat (first | (with_reducible first | exact HB.out | apply below_alloc | apply pw_below_drewN | apply below_drew1 | refine below_set ?_ GE220.out | refine below_set ?_ GE221.out) | exact HB.out)⟩⟩
        case round =>
          clear H'
          try clear c1
          try clear c2
          try clear p2
          try clear c3
          try clear c4
          try clear c5
          try clear c6
          try clear c6b0
          try clear c6b1
          try clear c7
          try clear c7b0
          try clear c7b1
          try clear c8
          try clear c8b0
          try clear c8b1
          try clear c9
          try clear c9b0
          try clear c9b1
          try clear c10
          try clear c10b0
          try clear c10b1
          try clear c15
          try clear c15b0
          try clear c15b1
          try clear c16
          try clear c16b0
          try clear c16b1
          try clear c17
          try clear c17b0
          try clear c17b1
          try clear c18
          try clear c18b0
          try clear c22
          try clear c25
          try clear c28
          try clear c31
          try clear c34
          try clear c37
          try clear c40
          try clear c43
          try clear c46
          try clear c49
          try clear c50
          try clear hcz21_0
          try clear hcz21_1
          try clear hcz21_10
          try clear hcz21_11
          try clear hcz21_12
          try clear hcz21_2
          try clear hcz21_3
          try clear hcz21_4
          try clear hcz21_5
          try clear hcz21_6
          try clear hcz21_7
          try clear hcz21_8
          try clear hcz21_9
          try clear hcz23_0
          try clear hcz23_1
          try clear hcz23_10
          try clear hcz23_11
          try clear hcz23_12
          try clear hcz23_2
          try clear hcz23_3
          try clear hcz23_4
          try clear hcz23_5
          try clear hcz23_6
          try clear hcz23_7
          try clear hcz23_8
          try clear hcz23_9
          try clear hcz24_0
          try clear hcz24_1
          try clear hcz24_10
          try clear hcz24_11
          try clear hcz24_12
          try clear hcz24_2
          try clear hcz24_3
          try clear hcz24_4
          try clear hcz24_5
          try clear hcz24_6
          try clear hcz24_7
          try clear hcz24_8
          try clear hcz24_9
          try clear hcz26_0
          try clear hcz26_1
          try clear hcz26_10
          try clear hcz26_11
          try clear hcz26_12
          try clear hcz26_2
          try clear hcz26_3
          try clear hcz26_4
          try clear hcz26_5
          try clear hcz26_6
          try clear hcz26_7
          try clear hcz26_8
          try clear hcz26_9
          try clear hcz27_0
          try clear hcz27_1
          try clear hcz27_10
          try clear hcz27_11
          try clear hcz27_12
          try clear hcz27_2
          try clear hcz27_3
          try clear hcz27_4
          try clear hcz27_5
          try clear hcz27_6
          try clear hcz27_7
          try clear hcz27_8
          try clear hcz27_9
          try clear hcz29_0
          try clear hcz29_1
          try clear hcz29_10
          try clear hcz29_11
          try clear hcz29_12
          try clear hcz29_2
          try clear hcz29_3
          try clear hcz29_4
          try clear hcz29_5
          try clear hcz29_6
          try clear hcz29_7
          try clear hcz29_8
          try clear hcz29_9
          try clear hcz30_0
          try clear hcz30_1
          try clear hcz30_10
          try clear hcz30_11
          try clear hcz30_12
          try clear hcz30_2
          try clear hcz30_3
          try clear hcz30_4
          try clear hcz30_5
          try clear hcz30_6
          try clear hcz30_7
          try clear hcz30_8
          try clear hcz30_9
          try clear hcz32_0
          try clear hcz32_1
          try clear hcz32_10
          try clear hcz32_11
          try clear hcz32_12
          try clear hcz32_2
          try clear hcz32_3
          try clear hcz32_4
          try clear hcz32_5
          try clear hcz32_6
          try clear hcz32_7
          try clear hcz32_8
          try clear hcz32_9
          try clear hcz33_0
          try clear hcz33_1
          try clear hcz33_10
          try clear hcz33_11
          try clear hcz33_12
          try clear hcz33_2
          try clear hcz33_3
          try clear hcz33_4
          try clear hcz33_5
          try clear hcz33_6
          try clear hcz33_7
          try clear hcz33_8
          try clear hcz33_9
          try clear hcz35_0
          try clear hcz35_1
          try clear hcz35_10
          try clear hcz35_11
          try clear hcz35_12
          try clear hcz35_2
          try clear hcz35_3
          try clear hcz35_4
          try clear hcz35_5
          try clear hcz35_6
          try clear hcz35_7
          try clear hcz35_8
          try clear hcz35_9
          try clear hcz36_0
          try clear hcz36_1
          try clear hcz36_10
          try clear hcz36_11
          try clear hcz36_12
          try clear hcz36_2
          try clear hcz36_3
          try clear hcz36_4
          try clear hcz36_5
          try clear hcz36_6
          try clear hcz36_7
          try clear hcz36_8
          try clear hcz36_9
          try clear hcz38_0
          try clear hcz38_1
          try clear hcz38_10
          try clear hcz38_11
          try clear hcz38_12
          try clear hcz38_2
          try clear hcz38_3
          try clear hcz38_4
          try clear hcz38_5
          try clear hcz38_6
          try clear hcz38_7
          try clear hcz38_8
          try clear hcz38_9
          try clear hcz39_0
          try clear hcz39_1
          try clear hcz39_10
          try clear hcz39_11
          try clear hcz39_12
          try clear hcz39_2
          try clear hcz39_3
          try clear hcz39_4
          try clear hcz39_5
          try clear hcz39_6
          try clear hcz39_7
          try clear hcz39_8
          try clear hcz39_9
          try clear hcz41_0
          try clear hcz41_1
          try clear hcz41_10
          try clear hcz41_11
          try clear hcz41_12
          try clear hcz41_2
          try clear hcz41_3
          try clear hcz41_4
          try clear hcz41_5
          try clear hcz41_6
          try clear hcz41_7
          try clear hcz41_8
          try clear hcz41_9
          try clear hcz42_0
          try clear hcz42_1
          try clear hcz42_10
          try clear hcz42_11
          try clear hcz42_12
          try clear hcz42_2
          try clear hcz42_3
          try clear hcz42_4
          try clear hcz42_5
          try clear hcz42_6
          try clear hcz42_7
          try clear hcz42_8
          try clear hcz42_9
          try clear hcz44_0
          try clear hcz44_1
          try clear hcz44_10
          try clear hcz44_11
          try clear hcz44_12
          try clear hcz44_2
          try clear hcz44_3
          try clear hcz44_4
          try clear hcz44_5
          try clear hcz44_6
          try clear hcz44_7
          try clear hcz44_8
          try clear hcz44_9
          try clear hcz45_0
          try clear hcz45_1
          try clear hcz45_10
          try clear hcz45_11
          try clear hcz45_12
          try clear hcz45_2
          try clear hcz45_3
          try clear hcz45_4
          try clear hcz45_5
          try clear hcz45_6
          try clear hcz45_7
          try clear hcz45_8
          try clear hcz45_9
          try clear hcz47_0
          try clear hcz47_1
          try clear hcz47_10
          try clear hcz47_11
          try clear hcz47_12
          try clear hcz47_2
          try clear hcz47_3
          try clear hcz47_4
          try clear hcz47_5
          try clear hcz47_6
          try clear hcz47_7
          try clear hcz47_8
          try clear hcz47_9
          try clear hcz48_0
          try clear hcz48_1
          try clear hcz48_10
          try clear hcz48_11
          try clear hcz48_12
          try clear hcz48_2
          try clear hcz48_3
          try clear hcz48_4
          try clear hcz48_5
          try clear hcz48_6
          try clear hcz48_7
          try clear hcz48_8
          try clear hcz48_9
          try clear hcz51_0
          try clear hcz51_1
          try clear hcz51_10
          try clear hcz51_11
          try clear hcz51_12
          try clear hcz51_2
          try clear hcz51_3
          try clear hcz51_4
          try clear hcz51_5
          try clear hcz51_6
          try clear hcz51_7
          try clear hcz51_8
          try clear hcz51_9
          try clear hfz21_0
          try clear hfz21_1
          try clear hfz21_10
          try clear hfz21_11
          try clear hfz21_12
          try clear hfz21_2
          try clear hfz21_3
          try clear hfz21_4
          try clear hfz21_5
          try clear hfz21_6
          try clear hfz21_7
          try clear hfz21_8
          try clear hfz21_9
          try clear hfz23_0
          try clear hfz23_1
          try clear hfz23_10
          try clear hfz23_11
          try clear hfz23_12
          try clear hfz23_2
          try clear hfz23_3
          try clear hfz23_4
          try clear hfz23_5
          try clear hfz23_6
          try clear hfz23_7
          try clear hfz23_8
          try clear hfz23_9
          try clear hfz24_0
          try clear hfz24_1
          try clear hfz24_10
          try clear hfz24_11
          try clear hfz24_12
          try clear hfz24_2
          try clear hfz24_3
          try clear hfz24_4
          try clear hfz24_5
          try clear hfz24_6
          try clear hfz24_7
          try clear hfz24_8
          try clear hfz24_9
          try clear hfz26_0
          try clear hfz26_1
          try clear hfz26_10
          try clear hfz26_11
          try clear hfz26_12
          try clear hfz26_2
          try clear hfz26_3
          try clear hfz26_4
          try clear hfz26_5
          try clear hfz26_6
          try clear hfz26_7
          try clear hfz26_8
          try clear hfz26_9
          try clear hfz27_0
          try clear hfz27_1
          try clear hfz27_10
          try clear hfz27_11
          try clear hfz27_12
          try clear hfz27_2
          try clear hfz27_3
          try clear hfz27_4
          try clear hfz27_5
          try clear hfz27_6
          try clear hfz27_7
          try clear hfz27_8
          try clear hfz27_9
          try clear hfz29_0
          try clear hfz29_1
          try clear hfz29_10
          try clear hfz29_11
          try clear hfz29_12
          try clear hfz29_2
          try clear hfz29_3
          try clear hfz29_4
          try clear hfz29_5
          try clear hfz29_6
          try clear hfz29_7
          try clear hfz29_8
          try clear hfz29_9
          try clear hfz30_0
          try clear hfz30_1
          try clear hfz30_10
          try clear hfz30_11
          try clear hfz30_12
          try clear hfz30_2
          try clear hfz30_3
          try clear hfz30_4
          try clear hfz30_5
          try clear hfz30_6
          try clear hfz30_7
          try clear hfz30_8
          try clear hfz30_9
          try clear hfz32_0
          try clear hfz32_1
          try clear hfz32_10
          try clear hfz32_11
          try clear hfz32_12
          try clear hfz32_2
          try clear hfz32_3
          try clear hfz32_4
          try clear hfz32_5
          try clear hfz32_6
          try clear hfz32_7
          try clear hfz32_8
          try clear hfz32_9
          try clear hfz33_0
          try clear hfz33_1
          try clear hfz33_10
          try clear hfz33_11
          try clear hfz33_12
          try clear hfz33_2
          try clear hfz33_3
          try clear hfz33_4
          try clear hfz33_5
          try clear hfz33_6
          try clear hfz33_7
          try clear hfz33_8
          try clear hfz33_9
          try clear hfz35_0
          try clear hfz35_1
          try clear hfz35_10
          try clear hfz35_11
          try clear hfz35_12
          try clear hfz35_2
          try clear hfz35_3
          try clear hfz35_4
          try clear hfz35_5
          try clear hfz35_6
          try clear hfz35_7
          try clear hfz35_8
          try clear hfz35_9
          try clear hfz36_0
          try clear hfz36_1
          try clear hfz36_10
          try clear hfz36_11
          try clear hfz36_12
          try clear hfz36_2
          try clear hfz36_3
          try clear hfz36_4
          try clear hfz36_5
          try clear hfz36_6
          try clear hfz36_7
          try clear hfz36_8
          try clear hfz36_9
          try clear hfz38_0
          try clear hfz38_1
          try clear hfz38_10
          try clear hfz38_11
          try clear hfz38_12
          try clear hfz38_2
          try clear hfz38_3
          try clear hfz38_4
          try clear hfz38_5
          try clear hfz38_6
          try clear hfz38_7
          try clear hfz38_8
          try clear hfz38_9
          try clear hfz39_0
          try clear hfz39_1
          try clear hfz39_10
          try clear hfz39_11
          try clear hfz39_12
          try clear hfz39_2
          try clear hfz39_3
          try clear hfz39_4
          try clear hfz39_5
          try clear hfz39_6
          try clear hfz39_7
          try clear hfz39_8
          try clear hfz39_9
          try clear hfz41_0
          try clear hfz41_1
          try clear hfz41_10
          try clear hfz41_11
          try clear hfz41_12
          try clear hfz41_2
          try clear hfz41_3
          try clear hfz41_4
          try clear hfz41_5
          try clear hfz41_6
          try clear hfz41_7
          try clear hfz41_8
          try clear hfz41_9
          try clear hfz42_0
          try clear hfz42_1
          try clear hfz42_10
          try clear hfz42_11
          try clear hfz42_12
          try clear hfz42_2
          try clear hfz42_3
          try clear hfz42_4
          try clear hfz42_5
          try clear hfz42_6
          try clear hfz42_7
          try clear hfz42_8
          try clear hfz42_9
          try clear hfz44_0
          try clear hfz44_1
          try clear hfz44_10
          try clear hfz44_11
          try clear hfz44_12
          try clear hfz44_2
          try clear hfz44_3
          try clear hfz44_4
          try clear hfz44_5
          try clear hfz44_6
          try clear hfz44_7
          try clear hfz44_8
          try clear hfz44_9
          try clear hfz45_0
          try clear hfz45_1
          try clear hfz45_10
          try clear hfz45_11
          try clear hfz45_12
          try clear hfz45_2
          try clear hfz45_3
          try clear hfz45_4
          try clear hfz45_5
          try clear hfz45_6
          try clear hfz45_7
          try clear hfz45_8
          try clear hfz45_9
          try clear hfz47_0
          try clear hfz47_1
          try clear hfz47_10
          try clear hfz47_11
          try clear hfz47_12
          try clear hfz47_2
          try clear hfz47_3
          try clear hfz47_4
          try clear hfz47_5
          try clear hfz47_6
          try clear hfz47_7
          try clear hfz47_8
          try clear hfz47_9
          try clear hfz48_0
          try clear hfz48_1
          try clear hfz48_10
          try clear hfz48_11
          try clear hfz48_12
          try clear hfz48_2
          try clear hfz48_3
          try clear hfz48_4
          try clear hfz48_5
          try clear hfz48_6
          try clear hfz48_7
          try clear hfz48_8
          try clear hfz48_9
          try clear hfz51_0
          try clear hfz51_1
          try clear hfz51_10
          try clear hfz51_11
          try clear hfz51_12
          try clear hfz51_2
          try clear hfz51_3
          try clear hfz51_4
          try clear hfz51_5
          try clear hfz51_6
          try clear hfz51_7
          try clear hfz51_8
          try clear hfz51_9
          try clear p2
          obtain ⟨x86_2, rfl, HA, HK2, BK220, BK221, HB⟩ := hrel
          cases gk with
          | zero => exact absurd HA.out (by simp [hushref16_Same.l0])
          | succ k2 =>
            have H := HA.out
            clear HA
            simp only [hushref16_Same.l0] at H
            by_cases c52 : x86_2 < (l0_10.length : Int)
            · rw [if_pos c52] at H
              have c52b0 : decide (x86_2 < (l0_10.length : Int)) = true := decide_eq_true c52
              clear c52
              by_cases c53 : 0 ≤ x86_2
              · rw [if_pos c53] at H
                have c53b0 : decide (0 ≤ x86_2) = true := decide_eq_true c53
                clear c53
                by_cases c54 : x86_2 < (l0_10.length : Int)
                · rw [if_pos c54] at H
                  have c54b0 : decide (x86_2 < (l0_10.length : Int)) = true := decide_eq_true c54
                  clear c54
                  by_cases c55 : x86_2 < (l1_10.length : Int)
                  · rw [if_pos c55] at H
                    have c55b0 : decide (x86_2 < (l1_10.length : Int)) = true := decide_eq_true c55
                    clear c55
                    by_cases c56 : (rd l0_10 x86_2) = (rd l1_10 x86_2)
                    · rw [if_pos c56] at H
                      have c56b0 : ((rd l0_10 x86_2) == (rd l1_10 x86_2)) = true := beq_iff_eq.mpr c56
                      have c56b1 : ((rd l0_10 x86_2) != (rd l1_10 x86_2)) = false := bne_eq_false_iff_eq.mpr c56
                      clear c56
                      have H' := Aside0.mk H
                      clear H
                      have hnb57 := NB220_221.out
                      have hnc57 := NB221_220.out
                      have hcz58_0 : wr.cell? ⟨gb220, 0, none⟩ = some (.int .i64 a0_0) := (blk_cell BK220.out 0).trans rfl
                      have hcz58_1 : wr.cell? ⟨gb220, 1, none⟩ = some (.string a0_1) := (blk_cell BK220.out 1).trans rfl
                      have hcz58_2 : wr.cell? ⟨gb220, 2, none⟩ = some (.int .i64 a0_2) := (blk_cell BK220.out 2).trans rfl
                      have hcz58_3 : wr.cell? ⟨gb220, 3, none⟩ = some (.string a0_3) := (blk_cell BK220.out 3).trans rfl
                      have hcz58_4 : wr.cell? ⟨gb220, 4, none⟩ = some (.string a0_4) := (blk_cell BK220.out 4).trans rfl
                      have hcz58_5 : wr.cell? ⟨gb220, 5, none⟩ = some (.int .i64 a0_5) := (blk_cell BK220.out 5).trans rfl
                      have hcz58_6 : wr.cell? ⟨gb220, 6, none⟩ = some (.int .i64 a0_6) := (blk_cell BK220.out 6).trans rfl
                      have hcz58_7 : wr.cell? ⟨gb220, 7, none⟩ = some (.int .i64 a0_7) := (blk_cell BK220.out 7).trans rfl
                      have hcz58_8 : wr.cell? ⟨gb220, 8, none⟩ = some (.int .i64 a0_8) := (blk_cell BK220.out 8).trans rfl
                      have hcz58_9 : wr.cell? ⟨gb220, 9, none⟩ = some (.int .i64 a0_9) := (blk_cell BK220.out 9).trans rfl
                      have hcz58_10 : wr.cell? ⟨gb220, 10, none⟩ = some (.slice A0_10 l0_10.length c0_10) := (blk_cell BK220.out 10).trans rfl
                      have hcz58_11 : wr.cell? ⟨gb220, 11, none⟩ = some (.int .i64 a0_11) := (blk_cell BK220.out 11).trans rfl
                      have hcz58_12 : wr.cell? ⟨gb220, 12, none⟩ = some (.int .i64 a0_12) := (blk_cell BK220.out 12).trans rfl
                      have hfz58_0 := blk_frozen BK220.out 0
                      have hfz58_1 := blk_frozen BK220.out 1
                      have hfz58_2 := blk_frozen BK220.out 2
                      have hfz58_3 := blk_frozen BK220.out 3
                      have hfz58_4 := blk_frozen BK220.out 4
                      have hfz58_5 := blk_frozen BK220.out 5
                      have hfz58_6 := blk_frozen BK220.out 6
                      have hfz58_7 := blk_frozen BK220.out 7
                      have hfz58_8 := blk_frozen BK220.out 8
                      have hfz58_9 := blk_frozen BK220.out 9
                      have hfz58_10 := blk_frozen BK220.out 10
                      have hfz58_11 := blk_frozen BK220.out 11
                      have hfz58_12 := blk_frozen BK220.out 12
                      have p222 : 0 ≤ (x86_2 : Int) := of_decide_eq_true (by first | (with_reducible assumption) | assumption)
                      have q222 : x86_2 < (l0_10.length : Int) := of_decide_eq_true (by first | (with_reducible assumption) | assumption)
                      obtain ⟨ad222, e222, hx222_0⟩ := Kd.at_int HR0_10.out x86_2 p222 q222
                      cases e222
                      replace hx222_0 := (HB.out.cell (World.block_lt_of_cell? w _ hx222_0)).trans hx222_0
                      replace p222 := eq_true p222
                      replace q222 := eq_true q222
                      have hcz59_0 : wr.cell? ⟨gb221, 0, none⟩ = some (.int .i64 a1_0) := (blk_cell BK221.out 0).trans rfl
                      have hcz59_1 : wr.cell? ⟨gb221, 1, none⟩ = some (.string a1_1) := (blk_cell BK221.out 1).trans rfl
                      have hcz59_2 : wr.cell? ⟨gb221, 2, none⟩ = some (.int .i64 a1_2) := (blk_cell BK221.out 2).trans rfl
                      have hcz59_3 : wr.cell? ⟨gb221, 3, none⟩ = some (.string a1_3) := (blk_cell BK221.out 3).trans rfl
                      have hcz59_4 : wr.cell? ⟨gb221, 4, none⟩ = some (.string a1_4) := (blk_cell BK221.out 4).trans rfl
                      have hcz59_5 : wr.cell? ⟨gb221, 5, none⟩ = some (.int .i64 a1_5) := (blk_cell BK221.out 5).trans rfl
                      have hcz59_6 : wr.cell? ⟨gb221, 6, none⟩ = some (.int .i64 a1_6) := (blk_cell BK221.out 6).trans rfl
                      have hcz59_7 : wr.cell? ⟨gb221, 7, none⟩ = some (.int .i64 a1_7) := (blk_cell BK221.out 7).trans rfl
                      have hcz59_8 : wr.cell? ⟨gb221, 8, none⟩ = some (.int .i64 a1_8) := (blk_cell BK221.out 8).trans rfl
                      have hcz59_9 : wr.cell? ⟨gb221, 9, none⟩ = some (.int .i64 a1_9) := (blk_cell BK221.out 9).trans rfl
                      have hcz59_10 : wr.cell? ⟨gb221, 10, none⟩ = some (.slice A1_10 l1_10.length c1_10) := (blk_cell BK221.out 10).trans rfl
                      have hcz59_11 : wr.cell? ⟨gb221, 11, none⟩ = some (.int .i64 a1_11) := (blk_cell BK221.out 11).trans rfl
                      have hcz59_12 : wr.cell? ⟨gb221, 12, none⟩ = some (.int .i64 a1_12) := (blk_cell BK221.out 12).trans rfl
                      have hfz59_0 := blk_frozen BK221.out 0
                      have hfz59_1 := blk_frozen BK221.out 1
                      have hfz59_2 := blk_frozen BK221.out 2
                      have hfz59_3 := blk_frozen BK221.out 3
                      have hfz59_4 := blk_frozen BK221.out 4
                      have hfz59_5 := blk_frozen BK221.out 5
                      have hfz59_6 := blk_frozen BK221.out 6
                      have hfz59_7 := blk_frozen BK221.out 7
                      have hfz59_8 := blk_frozen BK221.out 8
                      have hfz59_9 := blk_frozen BK221.out 9
                      have hfz59_10 := blk_frozen BK221.out 10
                      have hfz59_11 := blk_frozen BK221.out 11
                      have hfz59_12 := blk_frozen BK221.out 12
                      have p223 : 0 ≤ (x86_2 : Int) := of_decide_eq_true (by first | (with_reducible assumption) | assumption)
                      have q223 : x86_2 < (l1_10.length : Int) := of_decide_eq_true (by first | (with_reducible assumption) | assumption)
                      obtain ⟨ad223, e223, hx223_0⟩ := Kd.at_int HR1_10.out x86_2 p223 q223
                      cases e223
                      replace hx223_0 := (HB.out.cell (World.block_lt_of_cell? w _ hx223_0)).trans hx223_0
                      replace p223 := eq_true p223
                      replace q223 := eq_true q223
                      go_wp2
                      repeat (go_quiet (fail); try go_wp2)
                      go_roundg k2
                      case measure => have := HJ2.out; have := HK2.out; omega
                      case rel => exact ⟨(wrap64 (x86_2 + 1)), (by first | rfl | (simp; done) | (simp [*]; done)), H', ⟨by have := HJ2.out; have := HK2.out; omega⟩, ⟨by (with_reducible repeat (first | refine blk_drewN ?_ _ | refine blk_drew ?_ | refine blk_alloc ?_ _)); exact BK220.out⟩, ⟨by (with_reducible repeat (first | refine blk_drewN ?_ _ | refine blk_drew ?_ | refine blk_alloc ?_ _)); exact BK221.out⟩, ⟨by repeat (first | (with_reducible first | exact HB.out | apply below_alloc | apply pw_below_drewN | apply below_drew1 | refine below_set ?_ GE220.out | refine below_set ?_ GE221.out) | exact HB.out)⟩⟩
                    · rw [if_neg c56] at H
                      have c56b0 : ((rd l0_10 x86_2) == (rd l1_10 x86_2)) = false := beq_eq_false_iff_ne.mpr c56
                      have c56b1 : ((rd l0_10 x86_2) != (rd l1_10 x86_2)) = true := bne_iff_ne.mpr c56
                      obtain rfl := Option.some.inj H
                      have hnb60 := NB220_221.out
                      have hnc60 := NB221_220.out
                      have hcz61_0 : wr.cell? ⟨gb220, 0, none⟩ = some (.int .i64 a0_0) := (blk_cell BK220.out 0).trans rfl
                      have hcz61_1 : wr.cell? ⟨gb220, 1, none⟩ = some (.string a0_1) := (blk_cell BK220.out 1).trans rfl
                      have hcz61_2 : wr.cell? ⟨gb220, 2, none⟩ = some (.int .i64 a0_2) := (blk_cell BK220.out 2).trans rfl
                      have hcz61_3 : wr.cell? ⟨gb220, 3, none⟩ = some (.string a0_3) := (blk_cell BK220.out 3).trans rfl
                      have hcz61_4 : wr.cell? ⟨gb220, 4, none⟩ = some (.string a0_4) := (blk_cell BK220.out 4).trans rfl
                      have hcz61_5 : wr.cell? ⟨gb220, 5, none⟩ = some (.int .i64 a0_5) := (blk_cell BK220.out 5).trans rfl
                      have hcz61_6 : wr.cell? ⟨gb220, 6, none⟩ = some (.int .i64 a0_6) := (blk_cell BK220.out 6).trans rfl
                      have hcz61_7 : wr.cell? ⟨gb220, 7, none⟩ = some (.int .i64 a0_7) := (blk_cell BK220.out 7).trans rfl
                      have hcz61_8 : wr.cell? ⟨gb220, 8, none⟩ = some (.int .i64 a0_8) := (blk_cell BK220.out 8).trans rfl
                      have hcz61_9 : wr.cell? ⟨gb220, 9, none⟩ = some (.int .i64 a0_9) := (blk_cell BK220.out 9).trans rfl
                      have hcz61_10 : wr.cell? ⟨gb220, 10, none⟩ = some (.slice A0_10 l0_10.length c0_10) := (blk_cell BK220.out 10).trans rfl
                      have hcz61_11 : wr.cell? ⟨gb220, 11, none⟩ = some (.int .i64 a0_11) := (blk_cell BK220.out 11).trans rfl
                      have hcz61_12 : wr.cell? ⟨gb220, 12, none⟩ = some (.int .i64 a0_12) := (blk_cell BK220.out 12).trans rfl
                      have hfz61_0 := blk_frozen BK220.out 0
                      have hfz61_1 := blk_frozen BK220.out 1
                      have hfz61_2 := blk_frozen BK220.out 2
                      have hfz61_3 := blk_frozen BK220.out 3
                      have hfz61_4 := blk_frozen BK220.out 4
                      have hfz61_5 := blk_frozen BK220.out 5
                      have hfz61_6 := blk_frozen BK220.out 6
                      have hfz61_7 := blk_frozen BK220.out 7
                      have hfz61_8 := blk_frozen BK220.out 8
                      have hfz61_9 := blk_frozen BK220.out 9
                      have hfz61_10 := blk_frozen BK220.out 10
                      have hfz61_11 := blk_frozen BK220.out 11
                      have hfz61_12 := blk_frozen BK220.out 12
                      have p222 : 0 ≤ (x86_2 : Int) := of_decide_eq_true (by first | (with_reducible assumption) | assumption)
                      have q222 : x86_2 < (l0_10.length : Int) := of_decide_eq_true (by first | (with_reducible assumption) | assumption)
                      obtain ⟨ad222, e222, hx222_0⟩ := Kd.at_int HR0_10.out x86_2 p222 q222
                      cases e222
                      replace hx222_0 := (HB.out.cell (World.block_lt_of_cell? w _ hx222_0)).trans hx222_0
                      replace p222 := eq_true p222
                      replace q222 := eq_true q222
                      have hcz62_0 : wr.cell? ⟨gb221, 0, none⟩ = some (.int .i64 a1_0) := (blk_cell BK221.out 0).trans rfl
                      have hcz62_1 : wr.cell? ⟨gb221, 1, none⟩ = some (.string a1_1) := (blk_cell BK221.out 1).trans rfl
                      have hcz62_2 : wr.cell? ⟨gb221, 2, none⟩ = some (.int .i64 a1_2) := (blk_cell BK221.out 2).trans rfl
                      have hcz62_3 : wr.cell? ⟨gb221, 3, none⟩ = some (.string a1_3) := (blk_cell BK221.out 3).trans rfl
                      have hcz62_4 : wr.cell? ⟨gb221, 4, none⟩ = some (.string a1_4) := (blk_cell BK221.out 4).trans rfl
                      have hcz62_5 : wr.cell? ⟨gb221, 5, none⟩ = some (.int .i64 a1_5) := (blk_cell BK221.out 5).trans rfl
                      have hcz62_6 : wr.cell? ⟨gb221, 6, none⟩ = some (.int .i64 a1_6) := (blk_cell BK221.out 6).trans rfl
                      have hcz62_7 : wr.cell? ⟨gb221, 7, none⟩ = some (.int .i64 a1_7) := (blk_cell BK221.out 7).trans rfl
                      have hcz62_8 : wr.cell? ⟨gb221, 8, none⟩ = some (.int .i64 a1_8) := (blk_cell BK221.out 8).trans rfl
                      have hcz62_9 : wr.cell? ⟨gb221, 9, none⟩ = some (.int .i64 a1_9) := (blk_cell BK221.out 9).trans rfl
                      have hcz62_10 : wr.cell? ⟨gb221, 10, none⟩ = some (.slice A1_10 l1_10.length c1_10) := (blk_cell BK221.out 10).trans rfl
                      have hcz62_11 : wr.cell? ⟨gb221, 11, none⟩ = some (.int .i64 a1_11) := (blk_cell BK221.out 11).trans rfl
                      have hcz62_12 : wr.cell? ⟨gb221, 12, none⟩ = some (.int .i64 a1_12) := (blk_cell BK221.out 12).trans rfl
                      have hfz62_0 := blk_frozen BK221.out 0
                      have hfz62_1 := blk_frozen BK221.out 1
                      have hfz62_2 := blk_frozen BK221.out 2
                      have hfz62_3 := blk_frozen BK221.out 3
                      have hfz62_4 := blk_frozen BK221.out 4
                      have hfz62_5 := blk_frozen BK221.out 5
                      have hfz62_6 := blk_frozen BK221.out 6
                      have hfz62_7 := blk_frozen BK221.out 7
                      have hfz62_8 := blk_frozen BK221.out 8
                      have hfz62_9 := blk_frozen BK221.out 9
                      have hfz62_10 := blk_frozen BK221.out 10
                      have hfz62_11 := blk_frozen BK221.out 11
                      have hfz62_12 := blk_frozen BK221.out 12
                      have p223 : 0 ≤ (x86_2 : Int) := of_decide_eq_true (by first | (with_reducible assumption) | assumption)
                      have q223 : x86_2 < (l1_10.length : Int) := of_decide_eq_true (by first | (with_reducible assumption) | assumption)
                      obtain ⟨ad223, e223, hx223_0⟩ := Kd.at_int HR1_10.out x86_2 p223 q223
                      cases e223
                      replace hx223_0 := (HB.out.cell (World.block_lt_of_cell? w _ hx223_0)).trans hx223_0
                      replace p223 := eq_true p223
                      replace q223 := eq_true q223
                      go_wp2
                      repeat (go_quiet (fail); try go_wp2)
                      go_ret
                      exact ⟨by first | rfl | (simp [errW_none, errW_some] <;> rfl) | (simp [*, errW_none, errW_some] <;> rfl), by repeat (first | (with_reducible first | exact HB.out | apply below_alloc | apply pw_below_drewN | apply below_drew1 | refine below_set ?_ GE220.out | refine below_set ?_ GE221.out) | exact HB.out)⟩
                  · rw [if_neg c55] at H
                    exact absurd H (by simp)
                · rw [if_neg c54] at H
                  exact absurd H (by simp)
              · rw [if_neg c53] at H
                exact absurd H (by simp)
            · rw [if_neg c52] at H
              have c52b0 : decide (x86_2 < (l0_10.length : Int)) = false := decide_eq_false c52
              clear c52
              obtain rfl := Option.some.inj H
              go_wp2
              repeat (go_quiet (fail); try go_wp2)
              go_ret
              exact ⟨by first | rfl | (simp [errW_none, errW_some] <;> rfl) | (simp [*, errW_none, errW_some] <;> rfl), by repeat (first | (with_reducible first | exact HB.out | apply below_alloc | apply pw_below_drewN | apply below_drew1 | refine below_set ?_ GE220.out | refine below_set ?_ GE221.out) | exact HB.out)⟩

end Go.Proofs.Ytdfeidpkdbleaaa.PC

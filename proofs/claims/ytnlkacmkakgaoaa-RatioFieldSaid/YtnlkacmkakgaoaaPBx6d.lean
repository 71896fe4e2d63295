/- Functions of the translated program as Lean functions, and what their calls come to: written by this session's own program (wip/xprint.py) over the kit's print. Conditions stand in each theorem. -/
import Derived.Test.YtnlkacmkakgaoaaPBx0
import Derived.Test.YtnlkacmkakgaoaaPBx1
import Derived.Test.YtnlkacmkakgaoaaPBx4
import Derived.Test.YtnlkacmkakgaoaaPBx5
namespace Go.Proofs.Ytnlkacmkakgaoaa.PB
open Go.RowKit Go.Proofs.YtnlkacmkakgaoaaW.PrintWords Go.Proofs.YtnlkacmkakgaoaaW.PrintLast Go.Proofs.YtnlkacmkakgaoaaW.PrintMore
attribute [local go_sem] max2_int min2_int max_two min_two max_three min_three max_four min_four   -- for this text's walks alone
set_option linter.unusedVariables false
set_option linter.unusedSimpArgs false

attribute [local go_sem high] eqA23
/-! ### hushlaw1_RatioField: function 3 -/
mutual
def hushlaw1_RatioField.l0 : Nat → List Bool → Int → Int → Int → Int → Int → Int → Int → Int → Option (Bool)
  | 0, _, _, _, _, _, _, _, _, _ => none
  | k + 1, x37, x38, x39, x122000, x122001, x123000, x123001, x124000, x124001 => if x39 < x38 then (if 0 ≤ x39 then (if x39 < (x37.length : Int) then ((hushlaw1_two.f k (rdOf false x37 x39) x122000 x122001 x123000 x123001).bind fun bt129 => ((hushlaw1_two.f k (rdOf false x37 x39) x123000 x123001 x122000 x122001).bind fun bt133 => (if (bt129.2.2 != bt133.2.2) = true then (hushlaw1_RatioField.j1 k (rdOf false x37 x39) bt129.2.2 x37 x38 x39 true x122000 x122001 x123000 x123001 x124000 x124001 bt129.1 bt129.2.1) else (hushlaw1_RatioField.j1 k (rdOf false x37 x39) bt129.2.2 x37 x38 x39 (!(bt129.1 == bt133.1) || (!(bt129.2.1 == bt133.2.1))) x122000 x122001 x123000 x123001 x124000 x124001 bt129.1 bt129.2.1)))) else (none)) else (none)) else ((hushlaw1_two.f k true x123000 x123001 x124000 x124001).bind fun bt149 => ((hushlaw1_two.f k false x122000 x122001 x123000 x123001).bind fun bt153 => ((hushlaw1_two.f k false x122000 x122001 x124000 x124001).bind fun bt157 => (if bt149.2.2 = true then (if bt153.2.2 = true then (hushlaw1_RatioField.j3 k bt157.2.2 x122000 x122001 x123000 x123001 bt149.1 bt149.2.1 bt153.1 bt153.2.1 bt157.1 bt157.2.1) else (hushlaw1_RatioField.j3 k false x122000 x122001 x123000 x123001 bt149.1 bt149.2.1 bt153.1 bt153.2.1 bt157.1 bt157.2.1)) else (hushlaw1_RatioField.j3 k false x122000 x122001 x123000 x123001 bt149.1 bt149.2.1 bt153.1 bt153.2.1 bt157.1 bt157.2.1)))))
def hushlaw1_RatioField.j1 : Nat → Bool → Bool → List Bool → Int → Int → Bool → Int → Int → Int → Int → Int → Int → Int → Int → Option (Bool)
  | 0, _, _, _, _, _, _, _, _, _, _, _, _, _, _ => none
  | k + 1, x8, x10, x37, x38, x39, x64, x122000, x122001, x123000, x123001, x124000, x124001, x133000, x133001 => if x64 = true then (some false) else ((hushlaw1_two.f k x8 x123000 x123001 x124000 x124001).bind fun bt137 => (if x10 = true then (hushlaw1_RatioField.j2 k x8 x37 x38 x39 (!bt137.2.2) x122000 x122001 x123000 x123001 x124000 x124001 x133000 x133001 bt137.1 bt137.2.1) else (hushlaw1_RatioField.j2 k x8 x37 x38 x39 true x122000 x122001 x123000 x123001 x124000 x124001 x133000 x133001 bt137.1 bt137.2.1)))
def hushlaw1_RatioField.j2 : Nat → Bool → List Bool → Int → Int → Bool → Int → Int → Int → Int → Int → Int → Int → Int → Int → Int → Option (Bool)
  | 0, _, _, _, _, _, _, _, _, _, _, _, _, _, _, _ => none
  | k + 1, x8, x37, x38, x39, x77, x122000, x122001, x123000, x123001, x124000, x124001, x133000, x133001, x141000, x141001 => if x77 = true then (hushlaw1_RatioField.l0 k x37 x38 (wrap64 (x39 + 1)) x122000 x122001 x123000 x123001 x124000 x124001) else ((hushlaw1_two.f k x8 x133000 x133001 x124000 x124001).bind fun bt141 => ((hushlaw1_two.f k x8 x122000 x122001 x141000 x141001).bind fun bt145 => (if (bt141.2.2 != bt145.2.2) = true then (some false) else (if (!(bt141.1 == bt145.1) || (!(bt141.2.1 == bt145.2.1))) = true then (some false) else (hushlaw1_RatioField.l0 k x37 x38 (wrap64 (x39 + 1)) x122000 x122001 x123000 x123001 x124000 x124001)))))
def hushlaw1_RatioField.j3 : Nat → Bool → Int → Int → Int → Int → Int → Int → Int → Int → Int → Int → Option (Bool)
  | 0, _, _, _, _, _, _, _, _, _, _, _ => none
  | k + 1, x125, x122000, x122001, x123000, x123001, x153000, x153001, x157000, x157001, x161000, x161001 => if x125 = true then ((hushlaw1_two.f k false x122000 x122001 x153000 x153001).bind fun bt161 => ((hushlaw1_two.f k true x157000 x157001 x161000 x161001).bind fun bt165 => (if (bt161.2.2 != bt165.2.2) = true then (some false) else (if (!(bt161.1 == bt165.1) || (!(bt161.2.1 == bt165.2.1))) = true then (some false) else (hushlaw1_RatioField.j4 k x122000 x122001 x123000 x123001))))) else (hushlaw1_RatioField.j4 k x122000 x122001 x123000 x123001)
def hushlaw1_RatioField.j4 : Nat → Int → Int → Int → Int → Option (Bool)
  | 0, _, _, _, _ => none
  | k + 1, x122000, x122001, x123000, x123001 => (ratio_Over.f k x122000 x122001 x123000 x123001).bind fun bt169 => (if bt169.2.2 = 0 then ((hushlaw1_two.f k false bt169.1 bt169.2.1 x123000 x123001).bind fun bt173 => (if bt173.2.2 = true then (if (!(bt173.1 == x122000) || (!(bt173.2.1 == x122001))) = true then (some false) else (hushlaw1_RatioField.j5 k x122000 x122001 x123000 x123001)) else (some false))) else (hushlaw1_RatioField.j5 k x122000 x122001 x123000 x123001))
def hushlaw1_RatioField.j5 : Nat → Int → Int → Int → Int → Option (Bool)
  | 0, _, _, _, _ => none
  | k + 1, x122000, x122001, x123000, x123001 => (ratio_Minus.f k x122000 x122001 x123000 x123001).bind fun bt177 => (if bt177.2.2 = 0 then ((hushlaw1_two.f k true bt177.1 bt177.2.1 x123000 x123001).bind fun bt181 => (if bt181.2.2 = true then (if (!(bt181.1 == x122000) || (!(bt181.2.1 == x122001))) = true then (some false) else (some true)) else (some false))) else (some true))
end
def hushlaw1_RatioField.f (k : Nat) (a0_0 : Int) (a0_1 : Int) (a1_0 : Int) (a1_1 : Int) (a2_0 : Int) (a2_1 : Int) : Option (Bool) := (hushlaw1_alive.f k).bind fun t124 => (if t124 = true then ((some (([false, true] : List Bool) : List Bool)).bind fun y125 => (hushlaw1_RatioField.l0 k y125 (y125.length : Int) 0 a0_0 a0_1 a1_0 a1_1 a2_0 a2_1)) else (some false))
theorem hushlaw1_RatioField.mono_l : ∀ k, (∀ y0 y1 y2 y3 y4 y5 y6 y7 y8, LeO (hushlaw1_RatioField.l0 k y0 y1 y2 y3 y4 y5 y6 y7 y8) (hushlaw1_RatioField.l0 (k + 1) y0 y1 y2 y3 y4 y5 y6 y7 y8)) ∧ (∀ y0 y1 y2 y3 y4 y5 y6 y7 y8 y9 y10 y11 y12 y13, LeO (hushlaw1_RatioField.j1 k y0 y1 y2 y3 y4 y5 y6 y7 y8 y9 y10 y11 y12 y13) (hushlaw1_RatioField.j1 (k + 1) y0 y1 y2 y3 y4 y5 y6 y7 y8 y9 y10 y11 y12 y13)) ∧ (∀ y0 y1 y2 y3 y4 y5 y6 y7 y8 y9 y10 y11 y12 y13 y14, LeO (hushlaw1_RatioField.j2 k y0 y1 y2 y3 y4 y5 y6 y7 y8 y9 y10 y11 y12 y13 y14) (hushlaw1_RatioField.j2 (k + 1) y0 y1 y2 y3 y4 y5 y6 y7 y8 y9 y10 y11 y12 y13 y14)) ∧ (∀ y0 y1 y2 y3 y4 y5 y6 y7 y8 y9 y10, LeO (hushlaw1_RatioField.j3 k y0 y1 y2 y3 y4 y5 y6 y7 y8 y9 y10) (hushlaw1_RatioField.j3 (k + 1) y0 y1 y2 y3 y4 y5 y6 y7 y8 y9 y10)) ∧ (∀ y0 y1 y2 y3, LeO (hushlaw1_RatioField.j4 k y0 y1 y2 y3) (hushlaw1_RatioField.j4 (k + 1) y0 y1 y2 y3)) ∧ (∀ y0 y1 y2 y3, LeO (hushlaw1_RatioField.j5 k y0 y1 y2 y3) (hushlaw1_RatioField.j5 (k + 1) y0 y1 y2 y3))
  | 0 => ⟨fun _ _ _ _ _ _ _ _ _ r h => by simp [hushlaw1_RatioField.l0] at h, fun _ _ _ _ _ _ _ _ _ _ _ _ _ _ r h => by simp [hushlaw1_RatioField.j1] at h, fun _ _ _ _ _ _ _ _ _ _ _ _ _ _ _ r h => by simp [hushlaw1_RatioField.j2] at h, fun _ _ _ _ _ _ _ _ _ _ _ r h => by simp [hushlaw1_RatioField.j3] at h, fun _ _ _ _ r h => by simp [hushlaw1_RatioField.j4] at h, fun _ _ _ _ r h => by simp [hushlaw1_RatioField.j5] at h⟩
  | k + 1 => by
    obtain ⟨ih0, ih1, ih2, ih3, ih4, ih5⟩ := hushlaw1_RatioField.mono_l k
    refine ⟨?_, ?_, ?_, ?_, ?_, ?_⟩
    · intro y0 y1 y2 y3 y4 y5 y6 y7 y8
      unfold hushlaw1_RatioField.l0
      repeat' first
      | (with_reducible exact ih0 _ _ _ _ _ _ _ _ _)
      | (with_reducible exact ih1 _ _ _ _ _ _ _ _ _ _ _ _ _ _)
      | (with_reducible exact ih2 _ _ _ _ _ _ _ _ _ _ _ _ _ _ _)
      | (with_reducible exact ih3 _ _ _ _ _ _ _ _ _ _ _)
      | (with_reducible exact ih4 _ _ _ _)
      | (with_reducible exact ih5 _ _ _ _)
      | (with_reducible exact hushlaw1_alive.mono _)
      | (with_reducible exact hushlaw1_two.mono _ _ _ _ _ _)
      | (with_reducible exact ratio_Minus.mono _ _ _ _ _)
      | (with_reducible exact ratio_Over.mono _ _ _ _ _)
      | (with_reducible exact LeO.refl _)
      | (with_reducible exact LeO.none _)
      | (with_reducible refine LeO.ite ?_ ?_)
      | (with_reducible refine LeO.bind ?_ (fun _ => ?_))
      | exact ih0 _ _ _ _ _ _ _ _ _
      | exact ih1 _ _ _ _ _ _ _ _ _ _ _ _ _ _
      | exact ih2 _ _ _ _ _ _ _ _ _ _ _ _ _ _ _
      | exact ih3 _ _ _ _ _ _ _ _ _ _ _
      | exact ih4 _ _ _ _
      | exact ih5 _ _ _ _
      | exact hushlaw1_alive.mono _
      | exact hushlaw1_two.mono _ _ _ _ _ _
      | exact ratio_Minus.mono _ _ _ _ _
      | exact ratio_Over.mono _ _ _ _ _
      | exact LeO.none _
      | refine LeO.ite ?_ ?_
      | refine LeO.bind ?_ (fun _ => ?_)
    · intro y0 y1 y2 y3 y4 y5 y6 y7 y8 y9 y10 y11 y12 y13
      unfold hushlaw1_RatioField.j1
      repeat' first
      | (with_reducible exact ih0 _ _ _ _ _ _ _ _ _)
      | (with_reducible exact ih1 _ _ _ _ _ _ _ _ _ _ _ _ _ _)
      | (with_reducible exact ih2 _ _ _ _ _ _ _ _ _ _ _ _ _ _ _)
      | (with_reducible exact ih3 _ _ _ _ _ _ _ _ _ _ _)
      | (with_reducible exact ih4 _ _ _ _)
      | (with_reducible exact ih5 _ _ _ _)
      | (with_reducible exact hushlaw1_alive.mono _)
      | (with_reducible exact hushlaw1_two.mono _ _ _ _ _ _)
      | (with_reducible exact ratio_Minus.mono _ _ _ _ _)
      | (with_reducible exact ratio_Over.mono _ _ _ _ _)
      | (with_reducible exact LeO.refl _)
      | (with_reducible exact LeO.none _)
      | (with_reducible refine LeO.ite ?_ ?_)
      | (with_reducible refine LeO.bind ?_ (fun _ => ?_))
      | exact ih0 _ _ _ _ _ _ _ _ _
      | exact ih1 _ _ _ _ _ _ _ _ _ _ _ _ _ _
      | exact ih2 _ _ _ _ _ _ _ _ _ _ _ _ _ _ _
      | exact ih3 _ _ _ _ _ _ _ _ _ _ _
      | exact ih4 _ _ _ _
      | exact ih5 _ _ _ _
      | exact hushlaw1_alive.mono _
      | exact hushlaw1_two.mono _ _ _ _ _ _
      | exact ratio_Minus.mono _ _ _ _ _
      | exact ratio_Over.mono _ _ _ _ _
      | exact LeO.none _
      | refine LeO.ite ?_ ?_
      | refine LeO.bind ?_ (fun _ => ?_)
    · intro y0 y1 y2 y3 y4 y5 y6 y7 y8 y9 y10 y11 y12 y13 y14
      unfold hushlaw1_RatioField.j2
      repeat' first
      | (with_reducible exact ih0 _ _ _ _ _ _ _ _ _)
      | (with_reducible exact ih1 _ _ _ _ _ _ _ _ _ _ _ _ _ _)
      | (with_reducible exact ih2 _ _ _ _ _ _ _ _ _ _ _ _ _ _ _)
      | (with_reducible exact ih3 _ _ _ _ _ _ _ _ _ _ _)
      | (with_reducible exact ih4 _ _ _ _)
      | (with_reducible exact ih5 _ _ _ _)
      | (with_reducible exact hushlaw1_alive.mono _)
      | (with_reducible exact hushlaw1_two.mono _ _ _ _ _ _)
      | (with_reducible exact ratio_Minus.mono _ _ _ _ _)
      | (with_reducible exact ratio_Over.mono _ _ _ _ _)
      | (with_reducible exact LeO.refl _)
      | (with_reducible exact LeO.none _)
      | (with_reducible refine LeO.ite ?_ ?_)
      | (with_reducible refine LeO.bind ?_ (fun _ => ?_))
      | exact ih0 _ _ _ _ _ _ _ _ _
      | exact ih1 _ _ _ _ _ _ _ _ _ _ _ _ _ _
      | exact ih2 _ _ _ _ _ _ _ _ _ _ _ _ _ _ _
      | exact ih3 _ _ _ _ _ _ _ _ _ _ _
      | exact ih4 _ _ _ _
      | exact ih5 _ _ _ _
      | exact hushlaw1_alive.mono _
      | exact hushlaw1_two.mono _ _ _ _ _ _
      | exact ratio_Minus.mono _ _ _ _ _
      | exact ratio_Over.mono _ _ _ _ _
      | exact LeO.none _
      | refine LeO.ite ?_ ?_
      | refine LeO.bind ?_ (fun _ => ?_)
    · intro y0 y1 y2 y3 y4 y5 y6 y7 y8 y9 y10
      unfold hushlaw1_RatioField.j3
      repeat' first
      | (with_reducible exact ih0 _ _ _ _ _ _ _ _ _)
      | (with_reducible exact ih1 _ _ _ _ _ _ _ _ _ _ _ _ _ _)
      | (with_reducible exact ih2 _ _ _ _ _ _ _ _ _ _ _ _ _ _ _)
      | (with_reducible exact ih3 _ _ _ _ _ _ _ _ _ _ _)
      | (with_reducible exact ih4 _ _ _ _)
      | (with_reducible exact ih5 _ _ _ _)
      | (with_reducible exact hushlaw1_alive.mono _)
      | (with_reducible exact hushlaw1_two.mono _ _ _ _ _ _)
      | (with_reducible exact ratio_Minus.mono _ _ _ _ _)
      | (with_reducible exact ratio_Over.mono _ _ _ _ _)
      | (with_reducible exact LeO.refl _)
      | (with_reducible exact LeO.none _)
      | (with_reducible refine LeO.ite ?_ ?_)
      | (with_reducible refine LeO.bind ?_ (fun _ => ?_))
      | exact ih0 _ _ _ _ _ _ _ _ _
      | exact ih1 _ _ _ _ _ _ _ _ _ _ _ _ _ _
      | exact ih2 _ _ _ _ _ _ _ _ _ _ _ _ _ _ _
      | exact ih3 _ _ _ _ _ _ _ _ _ _ _
      | exact ih4 _ _ _ _
      | exact ih5 _ _ _ _
      | exact hushlaw1_alive.mono _
      | exact hushlaw1_two.mono _ _ _ _ _ _
      | exact ratio_Minus.mono _ _ _ _ _
      | exact ratio_Over.mono _ _ _ _ _
      | exact LeO.none _
      | refine LeO.ite ?_ ?_
      | refine LeO.bind ?_ (fun _ => ?_)
    · intro y0 y1 y2 y3
      unfold hushlaw1_RatioField.j4
      repeat' first
      | (with_reducible exact ih0 _ _ _ _ _ _ _ _ _)
      | (with_reducible exact ih1 _ _ _ _ _ _ _ _ _ _ _ _ _ _)
      | (with_reducible exact ih2 _ _ _ _ _ _ _ _ _ _ _ _ _ _ _)
      | (with_reducible exact ih3 _ _ _ _ _ _ _ _ _ _ _)
      | (with_reducible exact ih4 _ _ _ _)
      | (with_reducible exact ih5 _ _ _ _)
      | (with_reducible exact hushlaw1_alive.mono _)
      | (with_reducible exact hushlaw1_two.mono _ _ _ _ _ _)
      | (with_reducible exact ratio_Minus.mono _ _ _ _ _)
      | (with_reducible exact ratio_Over.mono _ _ _ _ _)
      | (with_reducible exact LeO.refl _)
      | (with_reducible exact LeO.none _)
      | (with_reducible refine LeO.ite ?_ ?_)
      | (with_reducible refine LeO.bind ?_ (fun _ => ?_))
      | exact ih0 _ _ _ _ _ _ _ _ _
      | exact ih1 _ _ _ _ _ _ _ _ _ _ _ _ _ _
      | exact ih2 _ _ _ _ _ _ _ _ _ _ _ _ _ _ _
      | exact ih3 _ _ _ _ _ _ _ _ _ _ _
      | exact ih4 _ _ _ _
      | exact ih5 _ _ _ _
      | exact hushlaw1_alive.mono _
      | exact hushlaw1_two.mono _ _ _ _ _ _
      | exact ratio_Minus.mono _ _ _ _ _
      | exact ratio_Over.mono _ _ _ _ _
      | exact LeO.none _
      | refine LeO.ite ?_ ?_
      | refine LeO.bind ?_ (fun _ => ?_)
    · intro y0 y1 y2 y3
      unfold hushlaw1_RatioField.j5
      repeat' first
      | (with_reducible exact ih0 _ _ _ _ _ _ _ _ _)
      | (with_reducible exact ih1 _ _ _ _ _ _ _ _ _ _ _ _ _ _)
      | (with_reducible exact ih2 _ _ _ _ _ _ _ _ _ _ _ _ _ _ _)
      | (with_reducible exact ih3 _ _ _ _ _ _ _ _ _ _ _)
      | (with_reducible exact ih4 _ _ _ _)
      | (with_reducible exact ih5 _ _ _ _)
      | (with_reducible exact hushlaw1_alive.mono _)
      | (with_reducible exact hushlaw1_two.mono _ _ _ _ _ _)
      | (with_reducible exact ratio_Minus.mono _ _ _ _ _)
      | (with_reducible exact ratio_Over.mono _ _ _ _ _)
      | (with_reducible exact LeO.refl _)
      | (with_reducible exact LeO.none _)
      | (with_reducible refine LeO.ite ?_ ?_)
      | (with_reducible refine LeO.bind ?_ (fun _ => ?_))
      | exact ih0 _ _ _ _ _ _ _ _ _
      | exact ih1 _ _ _ _ _ _ _ _ _ _ _ _ _ _
      | exact ih2 _ _ _ _ _ _ _ _ _ _ _ _ _ _ _
      | exact ih3 _ _ _ _ _ _ _ _ _ _ _
      | exact ih4 _ _ _ _
      | exact ih5 _ _ _ _
      | exact hushlaw1_alive.mono _
      | exact hushlaw1_two.mono _ _ _ _ _ _
      | exact ratio_Minus.mono _ _ _ _ _
      | exact ratio_Over.mono _ _ _ _ _
      | exact LeO.none _
      | refine LeO.ite ?_ ?_
      | refine LeO.bind ?_ (fun _ => ?_)
theorem hushlaw1_RatioField.mono : ∀ a0 a1 a2 a3 a4 a5 k, LeO (hushlaw1_RatioField.f k a0 a1 a2 a3 a4 a5) (hushlaw1_RatioField.f (k + 1) a0 a1 a2 a3 a4 a5) := by
  intro a0 a1 a2 a3 a4 a5 k
  obtain ⟨ih0, ih1, ih2, ih3, ih4, ih5⟩ := hushlaw1_RatioField.mono_l k
  unfold hushlaw1_RatioField.f
  repeat' first
      | (with_reducible exact ih0 _ _ _ _ _ _ _ _ _)
      | (with_reducible exact ih1 _ _ _ _ _ _ _ _ _ _ _ _ _ _)
      | (with_reducible exact ih2 _ _ _ _ _ _ _ _ _ _ _ _ _ _ _)
      | (with_reducible exact ih3 _ _ _ _ _ _ _ _ _ _ _)
      | (with_reducible exact ih4 _ _ _ _)
      | (with_reducible exact ih5 _ _ _ _)
      | (with_reducible exact hushlaw1_alive.mono _)
      | (with_reducible exact hushlaw1_two.mono _ _ _ _ _ _)
      | (with_reducible exact ratio_Minus.mono _ _ _ _ _)
      | (with_reducible exact ratio_Over.mono _ _ _ _ _)
      | (with_reducible exact LeO.refl _)
      | (with_reducible exact LeO.none _)
      | (with_reducible refine LeO.ite ?_ ?_)
      | (with_reducible refine LeO.bind ?_ (fun _ => ?_))
      | exact ih0 _ _ _ _ _ _ _ _ _
      | exact ih1 _ _ _ _ _ _ _ _ _ _ _ _ _ _
      | exact ih2 _ _ _ _ _ _ _ _ _ _ _ _ _ _ _
      | exact ih3 _ _ _ _ _ _ _ _ _ _ _
      | exact ih4 _ _ _ _
      | exact ih5 _ _ _ _
      | exact hushlaw1_alive.mono _
      | exact hushlaw1_two.mono _ _ _ _ _ _
      | exact ratio_Minus.mono _ _ _ _ _
      | exact ratio_Over.mono _ _ _ _ _
      | exact LeO.none _
      | refine LeO.ite ?_ ?_
      | refine LeO.bind ?_ (fun _ => ?_)
/-- THE PURE STATEMENT of hushlaw1_RatioField. -/
def hushlaw1_RatioField.Pure : Prop := ∀ (p0 : S23) (p1 : S23) (p2 : S23), ((Lit.int .i64 p0.f0).wf = true ∧ (Lit.int .i64 p0.f1).wf = true) → ((Lit.int .i64 p1.f0).wf = true ∧ (Lit.int .i64 p1.f1).wf = true) → ((Lit.int .i64 p2.f0).wf = true ∧ (Lit.int .i64 p2.f1).wf = true) → ∃ k, hushlaw1_RatioField.f k p0.f0 p0.f1 p1.f0 p1.f1 p2.f0 p2.f1 = some true

end Go.Proofs.Ytnlkacmkakgaoaa.PB

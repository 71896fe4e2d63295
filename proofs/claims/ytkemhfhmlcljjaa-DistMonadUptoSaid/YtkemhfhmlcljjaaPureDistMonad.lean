/- The pure texts of this claim, its functions behind all rounds among them, and small steps. Conditions stand in each theorem. -/
import Derived.Test.YtkemhfhmlcljjaaPQx8
import Derived.Test.YtkemhfhmlcljjaaLim
import Derived.Test.YtkemhfhmlcljjaaPQx0
import Derived.Test.YtkemhfhmlcljjaaPQx2
import Derived.Test.YtkemhfhmlcljjaaPQx3
import Derived.Test.YtkemhfhmlcljjaaPQx4
import Derived.Test.YtkemhfhmlcljjaaPQx6
import Derived.Test.YtkemhfhmlcljjaaPQx5
import Derived.Test.YtkemhfhmlcljjaaPQx7
import Derived.Test.YtkemhfhmlcljjaaPQx1
import Derived.Test.YtkemhfhmlcljjaaPQx9
import Derived.Test.YtkemhfhmlcljjaaPQx10
section
namespace Go.Proofs.Ytkemhfhmlcljjaa.PQ
open Go.RowKit Go.Proofs.YtkemhfhmlcljjaaW.PrintWords Go.Proofs.YtkemhfhmlcljjaaW.PrintLast Go.Proofs.YtkemhfhmlcljjaaW.PrintMore
open Go.Proofs.YtkemhfhmlcljjaaW.EvKit
set_option linter.unusedVariables false
end Go.Proofs.Ytkemhfhmlcljjaa.PQ
end
section
namespace Go.Proofs.Ytkemhfhmlcljjaa.PQ
open Go.RowKit Go.Proofs.YtkemhfhmlcljjaaW.PrintWords Go.Proofs.YtkemhfhmlcljjaaW.PrintLast Go.Proofs.YtkemhfhmlcljjaaW.PrintMore
open Go.Proofs.YtkemhfhmlcljjaaW.EvKit
set_option linter.unusedVariables false
noncomputable def slices_IndexFunc_int_int.F (l0 : List Int) (a1 : Int) : Option (Int) := lim (fun k => slices_IndexFunc_int_int.f k l0 a1)
noncomputable def slices_ContainsFunc_int_int.F (l0 : List Int) (a1 : Int) : Option (Bool) := lim (fun k => slices_ContainsFunc_int_int.f k l0 a1)
noncomputable def dist_small.F (l0 : List Int) : Option (Bool) := lim (fun k => dist_small.f k l0)
noncomputable def slices_Equal_int_int.F (l0 : List Int) (l1 : List Int) : Option (Bool) := lim (fun k => slices_Equal_int_int.f k l0 l1)
end Go.Proofs.Ytkemhfhmlcljjaa.PQ
end
section
namespace Go.Proofs.Ytkemhfhmlcljjaa.PQ
open Go.RowKit Go.Proofs.YtkemhfhmlcljjaaW.PrintWords Go.Proofs.YtkemhfhmlcljjaaW.PrintLast Go.Proofs.YtkemhfhmlcljjaaW.PrintMore
open Go.Proofs.YtkemhfhmlcljjaaW.EvKit
set_option linter.unusedVariables false
noncomputable def dist_total.F (l0 : List (S32)) : Option (Int) := lim (fun k => dist_total.f k l0)
noncomputable def dist_gcd.F (a0 : Int) (a1 : Int) : Option (Int) := lim (fun k => dist_gcd.f k a0 a1)
noncomputable def slices_Compare_int_int.F (l0 : List Int) (l1 : List Int) : Option (Int) := lim (fun k => slices_Compare_int_int.f k l0 l1)
end Go.Proofs.Ytkemhfhmlcljjaa.PQ
end
section
namespace Go.Proofs.Ytkemhfhmlcljjaa.PQ
open Go.RowKit Go.Proofs.YtkemhfhmlcljjaaW.PrintWords Go.Proofs.YtkemhfhmlcljjaaW.PrintLast Go.Proofs.YtkemhfhmlcljjaaW.PrintMore
open Go.Proofs.YtkemhfhmlcljjaaW.EvKit
set_option linter.unusedVariables false
noncomputable def dist_tidy.F (l0 : List S32) : Option (List S32 × Int) := lim (fun k => dist_tidy.f k l0)
end Go.Proofs.Ytkemhfhmlcljjaa.PQ
end
section
namespace Go.Proofs.Ytkemhfhmlcljjaa.PQ
open Go.RowKit Go.Proofs.YtkemhfhmlcljjaaW.PrintWords Go.Proofs.YtkemhfhmlcljjaaW.PrintLast Go.Proofs.YtkemhfhmlcljjaaW.PrintMore
open Go.Proofs.YtkemhfhmlcljjaaW.EvKit
set_option linter.unusedVariables false
noncomputable def dist_Make.F (l0 : List (S32)) : Option ((List (S32)) × Int) := lim (fun k => dist_Make.f k l0)
noncomputable def dist_same_1.F (l0_0 : List Int) (a0_1 : Int) (l1_0 : List Int) (a1_1 : Int) : Option (Bool) := lim (fun k => dist_same_1.f k l0_0 a0_1 l1_0 a1_1)
end Go.Proofs.Ytkemhfhmlcljjaa.PQ
end
section
namespace Go.Proofs.Ytkemhfhmlcljjaa.PQ
open Go.RowKit Go.Proofs.YtkemhfhmlcljjaaW.PrintWords Go.Proofs.YtkemhfhmlcljjaaW.PrintLast Go.Proofs.YtkemhfhmlcljjaaW.PrintMore
open Go.Proofs.YtkemhfhmlcljjaaW.EvKit
set_option linter.unusedVariables false
noncomputable def api_Part.F (l0 : List (S32)) (l1 : List (S32)) (a2 : Int) : Option (Bool) := lim (fun k => api_Part.f k l0 l1 a2)
noncomputable def dist_same.F (l0 : List (S32)) (l1 : List (S32)) : Option (Bool) := lim (fun k => dist_same.f k l0 l1)
noncomputable def dist_Wrong.F (l0 : List (S32)) : Option (Int) := lim (fun k => dist_Wrong.f k l0)
noncomputable def dist_Sure.F (l0 : List Int) : Option ((List (S32)) × Int) := lim (fun k => dist_Sure.f k l0)
noncomputable def hushlaw2_alive.F : Option (Bool) := lim (fun k => hushlaw2_alive.f k)
end Go.Proofs.Ytkemhfhmlcljjaa.PQ
end
section
namespace Go.Proofs.Ytkemhfhmlcljjaa.PQ
open Go.RowKit Go.Proofs.YtkemhfhmlcljjaaW.PrintWords Go.Proofs.YtkemhfhmlcljjaaW.PrintLast Go.Proofs.YtkemhfhmlcljjaaW.PrintMore
open Go.Proofs.YtkemhfhmlcljjaaW.EvKit
set_option linter.unusedVariables false
noncomputable def plain_Then.F (l0 : List (S45)) (l1 : List Int) : Option ((List (S32))) := lim (fun k => plain_Then.f k l0 l1)
noncomputable def plain_Bind_1.F (l0 : List Int) (l1 : List (S45)) : Option ((List (S32)) × Int) := lim (fun k => plain_Bind_1.f k l0 l1)
end Go.Proofs.Ytkemhfhmlcljjaa.PQ
end
section
namespace Go.Proofs.Ytkemhfhmlcljjaa.PQ
open Go.RowKit Go.Proofs.YtkemhfhmlcljjaaW.PrintWords Go.Proofs.YtkemhfhmlcljjaaW.PrintLast Go.Proofs.YtkemhfhmlcljjaaW.PrintMore
open Go.Proofs.YtkemhfhmlcljjaaW.EvKit
set_option linter.unusedVariables false
noncomputable def dist_Bind.F (l0 : List (S32)) (l1 : List (S45)) : Option ((List (S32)) × Int) := lim (fun k => dist_Bind.f k l0 l1)
end Go.Proofs.Ytkemhfhmlcljjaa.PQ
end
section
namespace Go.Proofs.Ytkemhfhmlcljjaa.PQ
open Go.RowKit Go.Proofs.YtkemhfhmlcljjaaW.PrintWords Go.Proofs.YtkemhfhmlcljjaaW.PrintLast Go.Proofs.YtkemhfhmlcljjaaW.PrintMore
open Go.Proofs.YtkemhfhmlcljjaaW.EvKit
set_option linter.unusedVariables false
noncomputable def hushref2_Compare.F (l0 : List Int) (l1 : List Int) : Option (Int) := lim (fun k => hushref2_Compare.f k l0 l1)
noncomputable def hushref2_Same.F (l0 : List (S32)) (l1 : List (S32)) : Option (Bool) := lim (fun k => hushref2_Same.f k l0 l1)
end Go.Proofs.Ytkemhfhmlcljjaa.PQ
end
section
namespace Go.Proofs.Ytkemhfhmlcljjaa.DistPure
set_option linter.unusedVariables false
set_option linter.unusedSimpArgs false
open Go.RowKit Go.Proofs.Ytkemhfhmlcljjaa.PQ Go.Proofs.YtkemhfhmlcljjaaW.PrintWords Go.Proofs.YtkemhfhmlcljjaaW.PrintLast Go.Proofs.YtkemhfhmlcljjaaW.PrintMore Go.Proofs.YtkemhfhmlcljjaaW.EvKit
theorem w1 {i : Nat} (h : i < 4611686018427387904) : wrap64 ((i : Int) + 1) = ((i + 1 : Nat) : Int) := by rw [wrap64_of (by omega) (by omega)]; rfl
def okN (n : Int) : Bool := decide (-1073741824 ≤ n) && decide (n ≤ 1073741824)
def smallB (o : List Int) : Bool := decide (o.length ≤ 16) && o.all okN
theorem totOf_cons (p : S32) (l : List S32) : totOf (p :: l) = p.f1 + totOf l := rfl
theorem totOf_nil : totOf [] = 0 := rfl
theorem wOf_le : ∀ {l : List S32}, (∀ p ∈ l, 0 ≤ p.f1) → ∀ o, 0 ≤ wOf l o ∧ wOf l o ≤ totOf l
  | [], _, _ => ⟨Int.le_refl _, Int.le_refl _⟩
  | p :: l, h, o => by
    have := wOf_le (l := l) (fun q hq => h q (by simp [hq])) o
    have := h p (by simp)
    rw [totOf_cons, wOf_cons]
    split <;> omega
end Go.Proofs.Ytkemhfhmlcljjaa.DistPure
end
section
namespace Go.Proofs.Ytkemhfhmlcljjaa.DistPure
set_option linter.unusedVariables false
set_option linter.unusedSimpArgs false
open Go.RowKit Go.Proofs.Ytkemhfhmlcljjaa.PQ Go.Proofs.YtkemhfhmlcljjaaW.PrintWords Go.Proofs.YtkemhfhmlcljjaaW.PrintLast Go.Proofs.YtkemhfhmlcljjaaW.PrintMore Go.Proofs.YtkemhfhmlcljjaaW.EvKit
end Go.Proofs.Ytkemhfhmlcljjaa.DistPure
end
section
namespace Go.Proofs.Ytkemhfhmlcljjaa.DistPure
set_option linter.unusedVariables false
set_option linter.unusedSimpArgs false
open Go.RowKit Go.Proofs.Ytkemhfhmlcljjaa.PQ Go.Proofs.YtkemhfhmlcljjaaW.PrintWords Go.Proofs.YtkemhfhmlcljjaaW.PrintLast Go.Proofs.YtkemhfhmlcljjaaW.PrintMore Go.Proofs.YtkemhfhmlcljjaaW.EvKit
def Outs (l : List S32) (x : List Int) : Prop := ∃ p ∈ l, p.f0 = x ∧ 0 < p.f1
theorem wOf_ge : ∀ {l : List S32}, (∀ p ∈ l, 0 ≤ p.f1) → ∀ {p : S32}, p ∈ l → p.f1 ≤ wOf l p.f0
  | [], _, p, h => by cases h
  | q :: l, h0, p, h => by
    have h1 := h0 q (by simp)
    have h2 : ∀ p ∈ l, 0 ≤ p.f1 := fun x hx => h0 x (by simp [hx])
    rw [wOf_cons]
    rcases List.mem_cons.1 h with e | e
    · subst e
      rw [if_pos rfl]
      have := (wOf_le h2 p.f0).1
      omega
    · have := wOf_ge h2 e
      split <;> omega
theorem wOf_some : ∀ {l : List S32}, (∀ p ∈ l, 0 ≤ p.f1) → ∀ {o : List Int}, 0 < wOf l o → Outs l o
  | [], _, _, h => absurd h (Int.lt_irrefl 0)
  | q :: l, h0, o, h => by
    have h1 := h0 q (by simp)
    rw [wOf_cons] at h
    by_cases c : q.f0 = o ∧ 0 < q.f1
    · exact ⟨q, by simp, c⟩
    · have h2 : 0 < wOf l o := by
        by_cases e : q.f0 = o
        · rw [if_pos e] at h
          have : ¬ 0 < q.f1 := fun x => c ⟨e, x⟩
          omega
        · rw [if_neg e] at h; omega
      obtain ⟨p, hp, e⟩ := wOf_some (fun x hx => h0 x (by simp [hx])) h2
      exact ⟨p, by simp [hp], e⟩
theorem outs_iff {l D : List S32} (h : Canon l D) (h0 : ∀ p ∈ l, 0 ≤ p.f1) (x : List Int) : Outs l x ↔ ∃ q ∈ D, q.f0 = x := by
  have d0 : ∀ p ∈ D, 0 ≤ p.f1 := fun p hp => Int.le_of_lt (h.pos p hp)
  constructor
  · rintro ⟨p, hp, e, hpos⟩
    have := wOf_ge h0 hp
    rw [e, ← h.w] at this
    exact wOf_mem (by omega)
  · rintro ⟨q, hq, e⟩
    have := wOf_ge d0 hq
    have := h.pos q hq
    subst e
    exact wOf_some h0 (by rw [← h.w]; omega)
def Least (S : List Int → Prop) (o : List Int) (f : Bool) : Prop := (f = true → S o ∧ ∀ x, S x → cmpL o x ≤ 0) ∧ (f = false → ∀ x, ¬ S x)
theorem Least.new {S S' : List Int → Prop} {o v : List Int} (h : Least S o false) (hS : ∀ x, S' x ↔ S x ∨ x = v) : Least S' v true :=
  ⟨fun _ => ⟨(hS v).2 (.inr rfl), fun x hx => by
    rcases (hS x).1 hx with h1 | h1
    · exact absurd h1 (h.2 rfl x)
    · rw [h1, cmpL_self]; exact Int.le_refl 0⟩, fun c => by cases c⟩
theorem Least.lt {S S' : List Int → Prop} {o v : List Int} (h : Least S o true) (c : cmpL v o < 0) (hS : ∀ x, S' x ↔ S x ∨ x = v) : Least S' v true :=
  ⟨fun _ => ⟨(hS v).2 (.inr rfl), fun x hx => by
    rcases (hS x).1 hx with h1 | h1
    · exact cmpL_le_trans _ _ _ (Int.le_of_lt c) ((h.1 rfl).2 x h1)
    · rw [h1, cmpL_self]; exact Int.le_refl 0⟩, fun c => by cases c⟩
theorem Least.same {S S' : List Int → Prop} {o : List Int} {f : Bool} (h : Least S o f) (hS : ∀ x, S' x ↔ S x) : Least S' o f :=
  ⟨fun c => ⟨(hS o).2 (h.1 c).1, fun x hx => (h.1 c).2 x ((hS x).1 hx)⟩, fun c x hx => h.2 c x ((hS x).1 hx)⟩
theorem one_le {l : List S32} (h0 : ∀ p ∈ l, 0 ≤ p.f1) {p : S32} (h : p ∈ l) : p.f1 ≤ totOf l := by
  have h1 := wOf_ge h0 h
  have h2 := (wOf_le h0 p.f0).2
  omega
theorem tStep_len (d : List S32) (p : S32) : (tStep d p).length ≤ d.length + 1 := by
  unfold tStep
  split
  · omega
  · split
    · split
      · rw [List.length_append, List.length_dropLast, List.length_singleton]; omega
      · rw [List.length_append, List.length_singleton]; omega
    · rw [List.length_append, List.length_singleton]; omega
theorem tFold_len : ∀ (l d : List S32), (l.foldl tStep d).length ≤ d.length + l.length
  | [], d => by simp
  | p :: l, d => by
    have := tFold_len l (tStep d p)
    have := tStep_len d p
    rw [List.foldl_cons, List.length_cons]; omega
theorem tMerge_len (l : List S32) : (tMerge (sortP l)).length ≤ l.length := by
  have := tFold_len (sortP l) []
  rw [(sortP_perm l).length_eq, List.length_nil] at this
  unfold tMerge
  omega
theorem totOf_app : ∀ (a b : List S32), totOf (a ++ b) = totOf a + totOf b
  | [], b => by rw [totOf_nil]; exact (Int.zero_add _).symm
  | p :: a, b => by rw [List.cons_append, totOf_cons, totOf_cons, totOf_app a b]; omega
theorem totOf_perm {a b : List S32} (h : a.Perm b) : totOf a = totOf b := isum_perm (h.map _)
theorem tStep_tot (d : List S32) (p : S32) : totOf (tStep d p) = totOf d + p.f1 := by
  unfold tStep
  split
  · omega
  · split
    · rename_i q hq
      obtain ⟨d0, e⟩ : ∃ d0, d = d0 ++ [q] := List.getLast?_eq_some_iff.1 hq
      subst e
      split
      · rw [List.dropLast_concat, totOf_app, totOf_app, totOf_cons, totOf_cons, totOf_nil]
        show _ + (q.f1 + p.f1 + 0) = _
        omega
      · rw [totOf_app _ [p], totOf_cons p, totOf_nil]; omega
    · rw [totOf_app, totOf_cons, totOf_nil]; omega
theorem tFold_tot : ∀ (l d : List S32), totOf (l.foldl tStep d) = totOf d + totOf l
  | [], d => by rw [totOf_nil]; exact (Int.add_zero _).symm
  | p :: l, d => by rw [List.foldl_cons, tFold_tot, tStep_tot, totOf_cons]; omega
theorem tMerge_tot (l : List S32) : totOf (tMerge (sortP l)) = totOf l := by
  unfold tMerge
  rw [tFold_tot, totOf_perm (sortP_perm l), totOf_nil]; omega
end Go.Proofs.Ytkemhfhmlcljjaa.DistPure
end
section
namespace Go.Proofs.Ytkemhfhmlcljjaa.DistPure
set_option linter.unusedVariables false
set_option linter.unusedSimpArgs false
open Go.RowKit Go.Proofs.Ytkemhfhmlcljjaa.PQ Go.Proofs.YtkemhfhmlcljjaaW.PrintWords Go.Proofs.YtkemhfhmlcljjaaW.PrintLast Go.Proofs.YtkemhfhmlcljjaaW.PrintMore Go.Proofs.YtkemhfhmlcljjaaW.EvKit
instance : DecidableEq S32 := fun p q => decidable_of_iff (p.f1 = q.f1 ∧ p.f0 = q.f0) (by cases p; cases q; simp only [S32.mk.injEq]; exact And.comm)
structure Bd (l : List S32) : Prop where
  len : l.length ≤ 1048576
  out : ∀ p ∈ l, p.f0.length ≤ 1048576
def okP (p : S32) : Bool := smallB p.f0 && (decide (0 ≤ p.f1) && decide (p.f1 ≤ 1073741824))
theorem okP_iff {p : S32} : okP p = true ↔ smallB p.f0 = true ∧ 0 ≤ p.f1 ∧ p.f1 ≤ 1073741824 := by simp [okP]
def makeP (l : List S32) : List S32 × Int := if l.all okP = true then tDone (tMerge (sortP l)) else ([], 3)
theorem all_ok {l : List S32} (h : l.all okP = true) : ∀ p ∈ l, 0 ≤ p.f1 ∧ p.f1 ≤ 1073741824 := fun p hp => (okP_iff.1 (List.all_eq_true.1 h p hp)).2
theorem tDone_bd {D : List S32} (h : Bd D) : Bd (tDone D).1 := by
  unfold tDone
  split
  · exact ⟨by simp, by simp⟩
  · split
    · exact ⟨by simp, by simp⟩
    · refine ⟨by simpa using h.len, fun p hp => ?_⟩
      obtain ⟨q, hq, rfl⟩ := List.mem_map.1 hp
      exact h.out q hq
theorem makeP_bd {l : List S32} (h : Bd l) : Bd (makeP l).1 := by
  unfold makeP
  split
  · rename_i c
    have h0 : ∀ p ∈ l, 0 ≤ p.f1 := fun p hp => (all_ok c p hp).1
    refine tDone_bd ⟨?_, fun q hq => ?_⟩
    · have := tMerge_len l
      have := h.len
      omega
    · obtain ⟨p, hp, e, _⟩ := (outs_iff (tidy_canon h0) h0 q.f0).2 ⟨q, hq, rfl⟩
      rw [← e]
      exact h.out p hp
  · exact ⟨by simp, by simp⟩
def wrongP (d : List S32) : Int := if (makeP d).2 = 0 then (if d = (makeP d).1 then 0 else 2) else (makeP d).2
structure Right (d : List S32) : Prop where
  ok : d.all okP = true
  st : Strict d
  pos : 0 < totOf d
  few : totOf d ≤ 1073741824
  much : d.length ≤ 4096
theorem div_sum (g : Int) (hg : 0 < g) : ∀ (D : List S32), totOf (D.map (fun p => (⟨p.f0, p.f1 / g⟩ : S32))) ≤ totOf D / g
  | [] => by rw [List.map_nil, totOf_nil, Int.zero_ediv]; exact Int.le_refl 0
  | p :: D => by
    have ih := div_sum g hg D
    rw [List.map_cons, totOf_cons, totOf_cons]
    have h1 := Int.ediv_mul_le p.f1 (show g ≠ 0 by omega)
    have h2 := Int.ediv_mul_le (totOf D) (show g ≠ 0 by omega)
    have h3 : p.f1 / g + totOf D / g ≤ (p.f1 + totOf D) / g := by
      rw [Int.le_ediv_iff_mul_le hg, Int.add_mul]
      omega
    show p.f1 / g + _ ≤ _
    omega
theorem right_of {d : List S32} (h : wrongP d = 0) : Right d := by
  unfold wrongP at h
  by_cases c : (makeP d).2 = 0
  · rw [if_pos c] at h
    by_cases c2 : d = (makeP d).1
    · unfold makeP at c c2
      by_cases ho : d.all okP = true
      · rw [if_pos ho] at c c2
        have h0 : ∀ p ∈ d, 0 ≤ p.f1 := fun p hp => (all_ok ho p hp).1
        have hc := tidy_canon h0
        have htot := tMerge_tot d
        unfold tDone at c c2
        by_cases e1 : tMerge (sortP d) = []
        · rw [if_pos e1] at c; cases c
        · rw [if_neg e1] at c c2
          have hg := gOf_pos hc.pos e1
          by_cases e2 : totOf (tMerge (sortP d)) / (gOf (tMerge (sortP d)) : Int) > 1073741824 ∨ (tMerge (sortP d)).length > 4096
          · rw [if_pos e2] at c; cases c
          · rw [if_neg e2] at c2
            dsimp only at c2
            have hs := div_sum (gOf (tMerge (sortP d)) : Int) (by omega) (tMerge (sortP d))
            have htot2 : 0 < totOf (tMerge (sortP d)) := by
              cases hD : tMerge (sortP d) with
              | nil => exact absurd hD e1
              | cons q D =>
                have hp := hc.pos q (by rw [hD]; simp)
                have h2 := one_le (l := tMerge (sortP d)) (fun p hp => Int.le_of_lt (hc.pos p hp)) (p := q) (by rw [hD]; simp)
                rw [hD] at h2
                omega
            refine ⟨ho, ?_, by omega, ?_, ?_⟩
            · rw [c2]
              unfold Strict
              rw [List.pairwise_map]
              exact hc.st
            · rw [← c2] at hs
              omega
            · have := congrArg List.length c2
              rw [List.length_map] at this
              omega
      · rw [if_neg ho] at c; cases c
    · rw [if_neg c2] at h; cases h
  · rw [if_neg c] at h; exact absurd h c
end Go.Proofs.Ytkemhfhmlcljjaa.DistPure
end
section
namespace Go.Proofs.Ytkemhfhmlcljjaa.DistPure
set_option linter.unusedVariables false
set_option linter.unusedSimpArgs false
open Go.RowKit Go.Proofs.Ytkemhfhmlcljjaa.PQ Go.Proofs.YtkemhfhmlcljjaaW.PrintWords Go.Proofs.YtkemhfhmlcljjaaW.PrintLast Go.Proofs.YtkemhfhmlcljjaaW.PrintMore Go.Proofs.YtkemhfhmlcljjaaW.EvKit
theorem gOf_dvd_go : ∀ (d : List S32) (g : Nat), d.foldl (fun g p => Nat.gcd p.f1.toNat g) g ∣ g ∧ ∀ p ∈ d, d.foldl (fun g p => Nat.gcd p.f1.toNat g) g ∣ p.f1.toNat
  | [], g => ⟨Nat.dvd_refl _, fun p hp => by cases hp⟩
  | q :: d, g => by
    rw [List.foldl_cons]
    obtain ⟨h1, h2⟩ := gOf_dvd_go d (Nat.gcd q.f1.toNat g)
    refine ⟨Nat.dvd_trans h1 (Nat.gcd_dvd_right _ _), fun p hp => ?_⟩
    rcases List.mem_cons.1 hp with e | e
    · rw [e]; exact Nat.dvd_trans h1 (Nat.gcd_dvd_left _ _)
    · exact h2 p e
theorem gOf_dvd {d : List S32} {p : S32} (h : p ∈ d) : gOf d ∣ p.f1.toNat := (gOf_dvd_go d 0).2 p h
theorem gOf_max_go : ∀ (d : List S32) (g n : Nat), n ∣ g → (∀ p ∈ d, n ∣ p.f1.toNat) → n ∣ d.foldl (fun g p => Nat.gcd p.f1.toNat g) g
  | [], g, n, h, _ => h
  | q :: d, g, n, h, h0 => gOf_max_go d _ n (Nat.dvd_gcd (h0 q (by simp)) h) (fun p hp => h0 p (by simp [hp]))
theorem gOf_max {d : List S32} {n : Nat} (h : ∀ p ∈ d, n ∣ p.f1.toNat) : n ∣ gOf d := gOf_max_go d 0 n (Nat.dvd_zero n) h
theorem div_pos' {p : Int} {g : Nat} (hp : 0 < p) (hg : 0 < g) (hd : g ∣ p.toNat) : ∃ m : Nat, 0 < m ∧ p / (g : Int) = (m : Int) ∧ p.toNat = g * m := by
  obtain ⟨m, hm⟩ := hd
  have e : p = ((g * m : Nat) : Int) := by rw [← hm]; omega
  refine ⟨m, ?_, ?_, hm⟩
  · rcases Nat.eq_zero_or_pos m with h | h
    · rw [h, Nat.mul_zero] at hm; omega
    · exact h
  · rw [e, Int.natCast_mul, Int.mul_ediv_cancel_left _ (by omega)]
theorem canon_self {l : List S32} (hs : Strict l) (hp : ∀ p ∈ l, 0 < p.f1) : tMerge (sortP l) = l :=
  (tidy_canon (fun p h => Int.le_of_lt (hp p h))).uniq (⟨hs, hp, fun _ => rfl⟩ : Canon l l) (fun _ => rfl)
def divG (l : List S32) : List S32 := l.map (fun p => (⟨p.f0, p.f1 / (gOf l : Int)⟩ : S32))
structure Ord (l : List S32) : Prop where
  st : Strict l
  pos : ∀ p ∈ l, 0 < p.f1
  ok : l.all okP = true
  ne : l ≠ []
  few : totOf l ≤ 1073741824
  much : l.length ≤ 4096
theorem Ord.make {l : List S32} (h : Ord l) : makeP l = (divG l, 0) := by
  have hg := gOf_pos h.pos h.ne
  have h0 : 0 ≤ totOf l := by
    cases hl : l with
    | nil => exact absurd hl h.ne
    | cons q D =>
      have h1 := one_le (l := l) (fun p hp => Int.le_of_lt (h.pos p hp)) (p := q) (by rw [hl]; simp)
      have h2 := h.pos q (by rw [hl]; simp)
      rw [← hl]; omega
  have h1 : totOf l / (gOf l : Int) ≤ totOf l := Int.ediv_le_self _ h0
  have h2 := h.few
  have h3 := h.much
  unfold makeP
  rw [if_pos h.ok, canon_self h.st h.pos]
  unfold tDone
  rw [if_neg h.ne, if_neg (by omega)]
  rfl
theorem Ord.mem {l : List S32} (h : Ord l) {q : S32} (hq : q ∈ divG l) : ∃ p ∈ l, ∃ m : Nat, 0 < m ∧ q = ⟨p.f0, (m : Int)⟩ ∧ p.f1 = ((gOf l * m : Nat) : Int) := by
  obtain ⟨p, hp, rfl⟩ := List.mem_map.1 hq
  obtain ⟨m, h1, h2, h3⟩ := div_pos' (h.pos p hp) (gOf_pos h.pos h.ne) (gOf_dvd hp)
  have h4 := h.pos p hp
  exact ⟨p, hp, m, h1, by rw [h2], by omega⟩
theorem wOf_map (g : Nat) (hg : 0 < g) (o : List Int) : ∀ (L : List S32), (∀ p ∈ L, 0 < p.f1 ∧ g ∣ p.f1.toNat) → wOf (L.map (fun p => (⟨p.f0, p.f1 / (g : Int)⟩ : S32))) o * (g : Int) = wOf L o
  | [], _ => by simp [wOf, isum]
  | p :: L, h => by
    have ih := wOf_map g hg o L (fun q hq => h q (by simp [hq]))
    obtain ⟨h1, h2⟩ := h p (by simp)
    obtain ⟨m, _, e, e'⟩ := div_pos' h1 hg h2
    have e2 : p.f1 / (g : Int) * (g : Int) = p.f1 := by
      rw [e, ← Int.natCast_mul, Nat.mul_comm]; omega
    rw [List.map_cons, wOf_cons, wOf_cons, Int.add_mul, ih]
    by_cases c : p.f0 = o
    · rw [if_pos c, if_pos c, e2]
    · rw [if_neg c, if_neg c, Int.zero_mul]
theorem tot_map (g : Nat) (hg : 0 < g) : ∀ (L : List S32), (∀ p ∈ L, 0 < p.f1 ∧ g ∣ p.f1.toNat) → totOf (L.map (fun p => (⟨p.f0, p.f1 / (g : Int)⟩ : S32))) * (g : Int) = totOf L
  | [], _ => by rw [List.map_nil, totOf_nil, Int.zero_mul]
  | p :: L, h => by
    have ih := tot_map g hg L (fun q hq => h q (by simp [hq]))
    obtain ⟨h1, h2⟩ := h p (by simp)
    obtain ⟨m, _, e, e'⟩ := div_pos' h1 hg h2
    have e2 : p.f1 / (g : Int) * (g : Int) = p.f1 := by
      rw [e, ← Int.natCast_mul, Nat.mul_comm]; omega
    rw [List.map_cons, totOf_cons, totOf_cons, Int.add_mul, ih]
    show p.f1 / (g : Int) * (g : Int) + _ = _
    rw [e2]
theorem Ord.all {l : List S32} (h : Ord l) : ∀ p ∈ l, 0 < p.f1 ∧ gOf l ∣ p.f1.toNat := fun p hp => ⟨h.pos p hp, gOf_dvd hp⟩
theorem Ord.w {l : List S32} (h : Ord l) (o : List Int) : wOf (divG l) o * (gOf l : Int) = wOf l o := wOf_map (gOf l) (gOf_pos h.pos h.ne) o l h.all
theorem Ord.t {l : List S32} (h : Ord l) : totOf (divG l) * (gOf l : Int) = totOf l := tot_map (gOf l) (gOf_pos h.pos h.ne) l h.all
theorem Ord.g1 {l : List S32} (h : Ord l) : gOf (divG l) = 1 := by
  have hg := gOf_pos h.pos h.ne
  have h1 : gOf l * gOf (divG l) ∣ gOf l := gOf_max (fun q hq => by
    obtain ⟨m, _, h2, h3⟩ := div_pos' (h.pos q hq) hg (gOf_dvd hq)
    have h4 := gOf_dvd (List.mem_map.2 ⟨q, hq, rfl⟩ : (⟨q.f0, q.f1 / (gOf l : Int)⟩ : S32) ∈ divG l)
    rw [h3]
    refine Nat.mul_dvd_mul_left _ ?_
    have h5 : (q.f1 / (gOf l : Int)).toNat = m := by rw [h2]; omega
    rw [← h5]
    exact h4)
  have h2 := Nat.le_of_dvd hg h1
  have h3 : 0 < gOf (divG l) := by
    refine gOf_pos (fun p hp => ?_) (by unfold divG; simpa using h.ne)
    obtain ⟨_, _, m, h1, rfl, _⟩ := h.mem hp
    show (0 : Int) < m
    omega
  generalize gOf (divG l) = x at *
  rcases Nat.lt_or_ge 1 x with c | c
  · have := Nat.mul_lt_mul_of_pos_left c hg
    omega
  · omega
theorem Ord.div {l : List S32} (h : Ord l) : Ord (divG l) := by
  have hg := gOf_pos h.pos h.ne
  refine ⟨?_, ?_, ?_, by unfold divG; simpa using h.ne, ?_, by unfold divG; rw [List.length_map]; exact h.much⟩
  · unfold Strict divG
    rw [List.pairwise_map]
    exact h.st
  · intro p hp
    obtain ⟨_, _, m, h1, rfl, _⟩ := h.mem hp
    show (0 : Int) < m
    omega
  · rw [List.all_eq_true]
    intro q hq
    obtain ⟨p, hp, m, h1, rfl, e⟩ := h.mem hq
    obtain ⟨k1, k2, k3⟩ := okP_iff.1 (List.all_eq_true.1 h.ok p hp)
    have : m ≤ gOf l * m := Nat.le_mul_of_pos_left m hg
    refine okP_iff.2 ⟨k1, ?_, ?_⟩
    · show (0 : Int) ≤ m
      omega
    · show (m : Int) ≤ 1073741824
      omega
  · have := div_sum (gOf l : Int) (by omega) l
    have h2 := h.few
    have h1 : totOf l / (gOf l : Int) ≤ totOf l := by
      refine Int.ediv_le_self _ ?_
      cases hl : l with
      | nil => exact absurd hl h.ne
      | cons q D =>
        have h1 := one_le (l := l) (fun p hp => Int.le_of_lt (h.pos p hp)) (p := q) (by rw [hl]; simp)
        have h2 := h.pos q (by rw [hl]; simp)
        rw [← hl]; omega
    unfold divG
    omega
theorem Ord.wrong {l : List S32} (h : Ord l) : wrongP (divG l) = 0 := by
  have e : divG (divG l) = divG l := by
    have h1 := h.g1
    have e2 : divG (divG l) = (divG l).map (fun p => (⟨p.f0, p.f1 / (gOf (divG l) : Int)⟩ : S32)) := rfl
    rw [e2, h1]
    have e3 : ∀ L : List S32, L.map (fun p => (⟨p.f0, p.f1 / ((1 : Nat) : Int)⟩ : S32)) = L := fun L => by
      induction L with
      | nil => rfl
      | cons p L ih =>
        rw [List.map_cons, ih]
        congr 1
        have : p.f1 / ((1 : Nat) : Int) = p.f1 := by rw [Int.natCast_one, Int.ediv_one]
        rw [this]
    exact e3 _
  unfold wrongP
  rw [h.div.make, e]
  simp
theorem Ord.bd {l : List S32} (h : Ord l) (hb : Bd l) : Bd (divG l) := by
  have := makeP_bd hb
  rw [h.make] at this
  exact this
end Go.Proofs.Ytkemhfhmlcljjaa.DistPure
end
section
namespace Go.Proofs.Ytkemhfhmlcljjaa.DistPure
set_option linter.unusedVariables false
set_option linter.unusedSimpArgs false
open Go.RowKit Go.Proofs.Ytkemhfhmlcljjaa.PQ Go.Proofs.YtkemhfhmlcljjaaW.PrintWords Go.Proofs.YtkemhfhmlcljjaaW.PrintLast Go.Proofs.YtkemhfhmlcljjaaW.PrintMore Go.Proofs.YtkemhfhmlcljjaaW.EvKit
end Go.Proofs.Ytkemhfhmlcljjaa.DistPure
end
section
namespace Go.Proofs.Ytkemhfhmlcljjaa.DistPure
set_option linter.unusedVariables false
set_option linter.unusedSimpArgs false
open Go.RowKit Go.Proofs.Ytkemhfhmlcljjaa.PQ Go.Proofs.YtkemhfhmlcljjaaW.PrintWords Go.Proofs.YtkemhfhmlcljjaaW.PrintLast Go.Proofs.YtkemhfhmlcljjaaW.PrintMore Go.Proofs.YtkemhfhmlcljjaaW.EvKit
end Go.Proofs.Ytkemhfhmlcljjaa.DistPure
end
section
namespace Go.Proofs.Ytkemhfhmlcljjaa.DistPure
set_option linter.unusedVariables false
set_option linter.unusedSimpArgs false
open Go.RowKit Go.Proofs.Ytkemhfhmlcljjaa.PQ Go.Proofs.YtkemhfhmlcljjaaW.PrintWords Go.Proofs.YtkemhfhmlcljjaaW.PrintLast Go.Proofs.YtkemhfhmlcljjaaW.PrintMore Go.Proofs.YtkemhfhmlcljjaaW.EvKit
def hl (ta tb : Nat) (x : Int × Int) : Nat × Nat := (fHi ta tb x, fLo ta tb x)
def uv (ta tb : Nat) (x : Int × Int) : Nat × Nat := (x.1.toNat * tb, x.2.toNat * ta)
def two (ta tb : Nat) (x : Int × Int) : List (Nat × Nat) := [uv ta tb x, (uv ta tb x).swap]
end Go.Proofs.Ytkemhfhmlcljjaa.DistPure
end
section
namespace Go.Proofs.Ytkemhfhmlcljjaa.DistPure
open Go.RowKit Go.Proofs.Ytkemhfhmlcljjaa.PQ Go.Proofs.YtkemhfhmlcljjaaW.PrintWords Go.Proofs.YtkemhfhmlcljjaaW.PrintLast Go.Proofs.YtkemhfhmlcljjaaW.PrintMore Go.Proofs.YtkemhfhmlcljjaaW.EvKit
set_option linter.unusedVariables false
set_option linter.unusedSimpArgs false
end Go.Proofs.Ytkemhfhmlcljjaa.DistPure
end
section
namespace Go.Proofs.Ytkemhfhmlcljjaa.DistPure
set_option linter.unusedVariables false
set_option linter.unusedSimpArgs false
open Go.RowKit Go.Proofs.Ytkemhfhmlcljjaa.PQ Go.Proofs.YtkemhfhmlcljjaaW.PrintWords Go.Proofs.YtkemhfhmlcljjaaW.PrintLast Go.Proofs.YtkemhfhmlcljjaaW.PrintMore Go.Proofs.YtkemhfhmlcljjaaW.EvKit
structure RD (d : List S32) : Prop where
  bd : Bd d
  wr : wrongP d = 0
theorem RD.right {d : List S32} (h : RD d) : Right d := right_of h.wr
structure Two (a b : List S32) : Prop where
  a : RD a
  b : RD b
theorem Two.t {a b : List S32} (h : Two a b) : ∃ ta tb : Nat, totOf a = (ta : Int) ∧ totOf b = (tb : Int) ∧ 1 ≤ ta ∧ ta ≤ 1073741824 ∧ 1 ≤ tb ∧ tb ≤ 1073741824 := by
  have h1 := h.a.right
  have h2 := h.b.right
  refine ⟨(totOf a).toNat, (totOf b).toNat, ?_⟩
  have := h1.pos; have := h1.few; have := h2.pos; have := h2.few
  omega
end Go.Proofs.Ytkemhfhmlcljjaa.DistPure
end
section
namespace Go.Proofs.Ytkemhfhmlcljjaa.DistPure
set_option linter.unusedVariables false
set_option linter.unusedSimpArgs false
open Go.RowKit Go.Proofs.Ytkemhfhmlcljjaa.PQ Go.Proofs.YtkemhfhmlcljjaaW.PrintWords Go.Proofs.YtkemhfhmlcljjaaW.PrintLast Go.Proofs.YtkemhfhmlcljjaaW.PrintMore Go.Proofs.YtkemhfhmlcljjaaW.EvKit
end Go.Proofs.Ytkemhfhmlcljjaa.DistPure
end
section
namespace Go.Proofs.Ytkemhfhmlcljjaa.PQ
open Go.RowKit Go.Proofs.YtkemhfhmlcljjaaW.PrintWords Go.Proofs.YtkemhfhmlcljjaaW.PrintLast Go.Proofs.YtkemhfhmlcljjaaW.PrintMore
open Go.Proofs.YtkemhfhmlcljjaaW.EvKit
set_option linter.unusedVariables false
noncomputable def plain_Bind.F (l0 : List S32) (l1 : List S45) : Option (List S32 × Int) := lim (fun k => plain_Bind.f k l0 l1)
end Go.Proofs.Ytkemhfhmlcljjaa.PQ
end
section
namespace Go.Proofs.Ytkemhfhmlcljjaa.DistPure
set_option linter.unusedVariables false
set_option linter.unusedSimpArgs false
open Go.RowKit Go.Proofs.Ytkemhfhmlcljjaa.PQ Go.Proofs.YtkemhfhmlcljjaaW.PrintWords Go.Proofs.YtkemhfhmlcljjaaW.PrintLast Go.Proofs.YtkemhfhmlcljjaaW.PrintMore Go.Proofs.YtkemhfhmlcljjaaW.EvKit
def thenP : List S45 → List Int → List S32
  | [], o => [⟨o, 1⟩]
  | p :: l, o => if p.f0 = o then p.f1 else thenP l o
structure FBd (l : List S45) : Prop where
  len : l.length ≤ 1048576
  frm : ∀ p ∈ l, p.f0.length ≤ 1048576
  bd : ∀ p ∈ l, Bd p.f1
def allP (fs : List S45) : List S32 → Nat → Int × Nat
  | [], a => (0, a)
  | p :: d, a => if wrongP (thenP fs p.f0) = 0 then (if a / Nat.gcd a (totOf (thenP fs p.f0)).toNat * (totOf (thenP fs p.f0)).toNat > 1073741824 then (4, a) else allP fs d (a / Nat.gcd a (totOf (thenP fs p.f0)).toNat * (totOf (thenP fs p.f0)).toNat)) else (wrongP (thenP fs p.f0), a)
def rowP (fs : List S45) (a : Nat) (p : S32) : List S32 := (thenP fs p.f0).map (fun q => (⟨q.f0, p.f1 * ((a : Int) / totOf (thenP fs p.f0)) * q.f1⟩ : S32))
def bindL (fs : List S45) (a : Nat) (d : List S32) : List S32 := d.flatMap (rowP fs a)
structure AOK (fs : List S45) (d : List S32) (a : Nat) : Prop where
  rd : RD d
  fb : FBd fs
  r : ∀ p ∈ d, wrongP (thenP fs p.f0) = 0 ∧ (totOf (thenP fs p.f0)).toNat ∣ a
  p : 1 ≤ a
  t : (a : Int) * totOf d ≤ 1073741824
def bindP (fs : List S45) (d : List S32) : List S32 × Int := if wrongP d = 0 then (if (allP fs d 1).1 = 0 then (if ((allP fs d 1).2 : Int) * totOf d > 1073741824 then ([], 4) else makeP (bindL fs (allP fs d 1).2 d)) else ([], (allP fs d 1).1)) else ([], wrongP d)
end Go.Proofs.Ytkemhfhmlcljjaa.DistPure
end
section
namespace Go.Proofs.Ytkemhfhmlcljjaa.DistPure
set_option linter.unusedVariables false
set_option linter.unusedSimpArgs false
open Go.RowKit Go.Proofs.Ytkemhfhmlcljjaa.PQ Go.Proofs.YtkemhfhmlcljjaaW.PrintWords Go.Proofs.YtkemhfhmlcljjaaW.PrintLast Go.Proofs.YtkemhfhmlcljjaaW.PrintMore Go.Proofs.YtkemhfhmlcljjaaW.EvKit
end Go.Proofs.Ytkemhfhmlcljjaa.DistPure
end
section
namespace Go.Proofs.Ytkemhfhmlcljjaa.DistPure
set_option linter.unusedVariables false
set_option linter.unusedSimpArgs false
open Go.RowKit Go.Proofs.Ytkemhfhmlcljjaa.PQ Go.Proofs.YtkemhfhmlcljjaaW.PrintWords Go.Proofs.YtkemhfhmlcljjaaW.PrintLast Go.Proofs.YtkemhfhmlcljjaaW.PrintMore Go.Proofs.YtkemhfhmlcljjaaW.EvKit
structure Rt (u d : Int) : Prop where
  u0 : 0 ≤ u
  d1 : 1 ≤ d
  u2 : u ≤ 1073741824
  d2 : d ≤ 1073741824
  co : Int.gcd u d = 1
end Go.Proofs.Ytkemhfhmlcljjaa.DistPure
end
section
namespace Go.Proofs.Ytkemhfhmlcljjaa.DistPure
set_option linter.unusedVariables false
set_option linter.unusedSimpArgs false
open Go.RowKit Go.Proofs.Ytkemhfhmlcljjaa.PQ Go.Proofs.YtkemhfhmlcljjaaW.PrintWords Go.Proofs.YtkemhfhmlcljjaaW.PrintLast Go.Proofs.YtkemhfhmlcljjaaW.PrintMore Go.Proofs.YtkemhfhmlcljjaaW.EvKit
end Go.Proofs.Ytkemhfhmlcljjaa.DistPure
end
section
namespace Go.Proofs.Ytkemhfhmlcljjaa.PQ
open Go.RowKit Go.Proofs.YtkemhfhmlcljjaaW.PrintWords Go.Proofs.YtkemhfhmlcljjaaW.PrintLast Go.Proofs.YtkemhfhmlcljjaaW.PrintMore
open Go.Proofs.YtkemhfhmlcljjaaW.EvKit
set_option linter.unusedVariables false
noncomputable def hushlaw2_DistMonad.F (l0 : List (S32)) (l1 : List (S45)) (l2 : List (S45)) (l3 : List Int) : Option (Bool) := lim (fun k => hushlaw2_DistMonad.f k l0 l1 l2 l3)
end Go.Proofs.Ytkemhfhmlcljjaa.PQ
end
section
namespace Go.Proofs.Ytkemhfhmlcljjaa.DistPure
set_option linter.unusedVariables false
set_option linter.unusedSimpArgs false
open Go.RowKit Go.Proofs.Ytkemhfhmlcljjaa.PQ Go.Proofs.YtkemhfhmlcljjaaW.PrintWords Go.Proofs.YtkemhfhmlcljjaaW.PrintLast Go.Proofs.YtkemhfhmlcljjaaW.PrintMore Go.Proofs.YtkemhfhmlcljjaaW.EvKit
def hL (f g : List S45) (d : List S32) : List S45 := d.map (fun p => (⟨p.f0, (bindP g (thenP f p.f0)).1⟩ : S45))
end Go.Proofs.Ytkemhfhmlcljjaa.DistPure
namespace Go.Proofs.Ytkemhfhmlcljjaa.Pure
open Go.RowKit Go.Proofs.Ytkemhfhmlcljjaa.PQ Go.Proofs.YtkemhfhmlcljjaaW.PrintWords Go.Proofs.YtkemhfhmlcljjaaW.PrintLast Go.Proofs.YtkemhfhmlcljjaaW.PrintMore Go.Proofs.YtkemhfhmlcljjaaW.EvKit Go.Proofs.Ytkemhfhmlcljjaa.DistPure
end Go.Proofs.Ytkemhfhmlcljjaa.Pure
end

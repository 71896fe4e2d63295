/- Small words for the printed walks. Conditions: in each theorem. -/
import Derived.Test.YtkemhfhmlcljjaaWWords
namespace Go.Proofs.YtkemhfhmlcljjaaW.PrintWords
open Go.RowKit
theorem bnd_ {α β : Type} {x : Option α} {f : α → Option β} {b : β} (h : x.bind f = some b) : ∃ a, Aside0 (x = some a) ∧ f a = some b := by
  obtain ⟨a, h1, h2⟩ := Option.bind_eq_some_iff.mp h; exact ⟨a, ⟨h1⟩, h2⟩
theorem ifs_ {c : Prop} [Decidable c] {α : Type} {a b r : α} (h : (if c then a else b) = r) : (c ∧ a = r) ∨ (¬ c ∧ b = r) := by
  by_cases k : c
  · rw [if_pos k] at h; exact Or.inl ⟨k, h⟩
  · rw [if_neg k] at h; exact Or.inr ⟨k, h⟩
theorem gw_ {w W : World} {g : Nat} (h : Below w.heap.size w W) (hg : g = W.heap.size) : Aside0 (w.heap.size ≤ g) := ⟨by rw [hg]; exact below_size h⟩
theorem cz0_ {w : World} {g : Nat} {t : TypeId} {x : Value} {xs : List Value} (h : Aside0 (w.heap[g]? = some (.cells (List.toArray (x :: xs)) t (0, 0)))) : w.cell? ⟨g, 0, none⟩ = some x := (blk_cell h.out 0).trans rfl
theorem cz1_ {w : World} {g : Nat} {t : TypeId} {y0 x : Value} {xs : List Value} (h : Aside0 (w.heap[g]? = some (.cells (List.toArray (y0 :: x :: xs)) t (0, 0)))) : w.cell? ⟨g, 1, none⟩ = some x := (blk_cell h.out 1).trans rfl
theorem cz2_ {w : World} {g : Nat} {t : TypeId} {y0 y1 x : Value} {xs : List Value} (h : Aside0 (w.heap[g]? = some (.cells (List.toArray (y0 :: y1 :: x :: xs)) t (0, 0)))) : w.cell? ⟨g, 2, none⟩ = some x := (blk_cell h.out 2).trans rfl
theorem cz3_ {w : World} {g : Nat} {t : TypeId} {y0 y1 y2 x : Value} {xs : List Value} (h : Aside0 (w.heap[g]? = some (.cells (List.toArray (y0 :: y1 :: y2 :: x :: xs)) t (0, 0)))) : w.cell? ⟨g, 3, none⟩ = some x := (blk_cell h.out 3).trans rfl
end Go.Proofs.YtkemhfhmlcljjaaW.PrintWords

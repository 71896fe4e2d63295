/- TreeFew's pure statement: of every height and time the law's function answers true. Conditions: both numbers are int's. -/
import Derived.Test.YtlgdipednnkmcaaPAx4
namespace Go.Proofs.Ytlgdipednnkmcaa.Pure
open Go.RowKit Go.Proofs.Ytlgdipednnkmcaa.PA Go.Proofs.YtlgdipednnkmcaaW.PrintWords Go.Proofs.YtlgdipednnkmcaaW.PrintLast

theorem fewLong : ∀ n : Fin 11, hushref9_Long.f 20 (n.val : Int) = some ((2 ^ n.val : Nat) : Int) := by decide +kernel
theorem fewShl : ∀ n : Fin 11, shl .i64 1 (n.val : Int) = ((2 ^ n.val : Nat) : Int) := by decide +kernel
theorem fewAlive : hushlaw9_alive.f 40 = some true := by decide +kernel
def fewUpto (n : Nat) : Nat → Bool
  | 0 => true
  | t + 1 => (hushlaw9_TreeFew.f 40 (n : Int) (t : Int) == some true) && fewUpto n t
theorem fewUpto_get (n : Nat) : ∀ m, fewUpto n m = true → ∀ t, t < m → hushlaw9_TreeFew.f 40 (n : Int) (t : Int) = some true
  | 0, _, t, ht => absurd ht (Nat.not_lt_zero t)
  | m + 1, h, t, ht => by
    rw [fewUpto, Bool.and_eq_true] at h
    rcases Nat.lt_or_ge t m with hm | hm
    · exact fewUpto_get n m h.2 t hm
    · rw [show t = m by omega]
      exact eq_of_beq h.1
theorem few0 : fewUpto 0 2 = true := by decide +kernel
theorem few1 : fewUpto 1 3 = true := by decide +kernel
theorem few2 : fewUpto 2 5 = true := by decide +kernel
theorem few3 : fewUpto 3 9 = true := by decide +kernel
theorem few4 : fewUpto 4 17 = true := by decide +kernel
theorem few5 : fewUpto 5 33 = true := by decide +kernel
theorem few6 : fewUpto 6 65 = true := by decide +kernel
theorem few7 : fewUpto 7 129 = true := by decide +kernel
theorem few8 : fewUpto 8 257 = true := by decide +kernel
theorem few9 : fewUpto 9 513 = true := by decide +kernel
theorem few10a : fewUpto 10 1025 = true := by decide +kernel
theorem fewAll (n : Nat) (hn : n < 11) (t : Nat) (ht : t < 2 ^ n + 1) : hushlaw9_TreeFew.f 40 (n : Int) (t : Int) = some true := by
  match n, hn with
  | 0, _ => exact fewUpto_get 0 _ few0 t ht
  | 1, _ => exact fewUpto_get 1 _ few1 t ht
  | 2, _ => exact fewUpto_get 2 _ few2 t ht
  | 3, _ => exact fewUpto_get 3 _ few3 t ht
  | 4, _ => exact fewUpto_get 4 _ few4 t ht
  | 5, _ => exact fewUpto_get 5 _ few5 t ht
  | 6, _ => exact fewUpto_get 6 _ few6 t ht
  | 7, _ => exact fewUpto_get 7 _ few7 t ht
  | 8, _ => exact fewUpto_get 8 _ few8 t ht
  | 9, _ => exact fewUpto_get 9 _ few9 t ht
  | 10, _ => exact fewUpto_get 10 _ few10a t ht

theorem fewLongAny (n : Nat) (h : n < 11) : hushref9_Long.f 40 (n : Int) = some ((2 ^ n : Nat) : Int) :=
  at_rounds (hushref9_Long.mono _) (by omega) (fewLong ⟨n, h⟩)

theorem TreeFew : hushlaw9_TreeFew.Pure := by
  intro a t _ _
  refine ⟨40, ?_⟩
  by_cases ha : a < 0 ∨ a > 10
  · have hc : tree_Cover.f 40 a t = some ([], 3) := by
      unfold tree_Cover.f tree_wrongHigh.f
      rcases ha with ha | ha
      · rw [if_pos ha]; rfl
      · rw [if_neg (by omega), if_pos ha]; rfl
    unfold hushlaw9_TreeFew.f
    rw [fewAlive, hc]
    simp only [Option.bind_some, if_true]
    rw [if_neg (by decide)]
    rcases ha with ha | ha
    · rw [if_pos ha]
    · rw [if_neg (by omega), if_pos ha]
  · obtain ⟨n, rfl⟩ : ∃ n : Nat, a = n := ⟨a.toNat, by omega⟩
    have hn : n < 11 := by omega
    have hs := fewShl ⟨n, hn⟩
    have hl := fewLongAny n hn
    have hw : tree_wrongHigh.f (n : Int) = some 0 := by
      unfold tree_wrongHigh.f
      rw [if_neg (by omega), if_neg (by omega)]
    by_cases ht : t < 0
    · have hc : tree_Cover.f 40 n t = some ([], 3) := by
        unfold tree_Cover.f
        rw [hw]
        simp only [Option.bind_some, if_true]
        rw [if_pos ht]
        rfl
      unfold hushlaw9_TreeFew.f
      rw [fewAlive, hc]
      simp only [Option.bind_some, if_true]
      rw [if_neg (by decide), if_neg (by omega), if_neg (by omega), if_pos ht]
    · by_cases hb : t > ((2 ^ n : Nat) : Int)
      · have hc : tree_Cover.f 40 n t = some ([], 3) := by
          unfold tree_Cover.f
          rw [hw]
          simp only [Option.bind_some, if_true]
          rw [if_neg ht, if_pos (by omega), hs, decide_eq_true hb]
          rfl
        unfold hushlaw9_TreeFew.f
        rw [fewAlive, hc]
        simp only [Option.bind_some, if_true]
        rw [if_neg (by decide), if_neg (by omega), if_neg (by omega), if_neg ht, hl]
        simp only [Option.bind_some]
        rw [decide_eq_true hb]
      · obtain ⟨m, rfl⟩ : ∃ m : Nat, t = m := ⟨t.toNat, by omega⟩
        exact fewAll n hn m (by omega)

end Go.Proofs.Ytlgdipednnkmcaa.Pure

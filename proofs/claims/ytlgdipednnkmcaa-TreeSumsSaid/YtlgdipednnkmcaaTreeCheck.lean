/- Covers and spots of the program and of the reference are the same, checked one by one. Conditions: height at most 10, time within it. -/
import Derived.Test.YtlgdipednnkmcaaPAx2
import Derived.Test.YtlgdipednnkmcaaPAx3
import Derived.Test.YtlgdipednnkmcaaPAx8
import Derived.Test.YtlgdipednnkmcaaPAx7
import Derived.Test.YtlgdipednnkmcaaPAx2
import Derived.Test.YtlgdipednnkmcaaEvKit
namespace Go.Proofs.Ytlgdipednnkmcaa.TreeCheck
open Go.RowKit Go.Proofs.Ytlgdipednnkmcaa.PA Go.Proofs.YtlgdipednnkmcaaW.PrintWords Go.Proofs.YtlgdipednnkmcaaW.PrintLast Go.Proofs.YtlgdipednnkmcaaW.PrintMore Go.Proofs.YtlgdipednnkmcaaW.EvKit

def same29 : List S29 → List S29 → Bool
  | [], [] => true
  | a :: l, b :: m => a.f0 == b.f0 && (a.f1 == b.f1) && same29 l m
  | _, _ => false
theorem same29_eq : ∀ {l m : List S29}, same29 l m = true → l = m
  | [], [], _ => rfl
  | a :: l, b :: m, h => by
    simp only [same29, Bool.and_eq_true, beq_iff_eq] at h
    obtain ⟨⟨h1, h2⟩, h3⟩ := h
    rw [same29_eq h3]
    cases a
    cases b
    simp_all
  | [], _ :: _, h => by simp [same29] at h
  | _ :: _, [], h => by simp [same29] at h
/-- Each node ends within the time. -/
def fits (t : Int) (l : List S29) : Bool := l.all fun s => decide (0 ≤ s.f0) && decide (s.f0 ≤ 10) && decide (0 ≤ s.f1) && decide ((s.f1 + 1) * 2 ^ s.f0.toNat ≤ t)
def okCover (n t : Nat) : Bool :=
  match tree_Cover.f 40 (n : Int) (t : Int), hushref9_Cover.f 160 (n : Int) (t : Int) with
  | some (l, e), some (m, e') => same29 l m && (e == 0) && (e' == 0) && fits t l && decide (l.length ≤ 11)
  | _, _ => false
def okSpots (n t : Nat) : Bool :=
  match tree_Spots.f 40 (n : Int) (t : Int), hushref9_Spots.f 40 (n : Int) (t : Int) with
  | some (l, e), some (m, e') => same29 l m && (e == e') && decide (l.length ≤ 11)
  | _, _ => false
def upto (p : Nat → Bool) : Nat → Bool
  | 0 => true
  | t + 1 => p t && upto p t
theorem upto_get (p : Nat → Bool) : ∀ m, upto p m = true → ∀ t, t < m → p t = true
  | 0, _, t, ht => absurd ht (Nat.not_lt_zero t)
  | m + 1, h, t, ht => by
    rw [upto, Bool.and_eq_true] at h
    rcases Nat.lt_or_ge t m with hm | hm
    · exact upto_get p m h.2 t hm
    · rw [show t = m by omega]
      exact h.1
theorem c0 : upto (okCover 0) 2 = true := by decide +kernel
theorem c1 : upto (okCover 1) 3 = true := by decide +kernel
theorem c2 : upto (okCover 2) 5 = true := by decide +kernel
theorem c3 : upto (okCover 3) 9 = true := by decide +kernel
theorem c4 : upto (okCover 4) 17 = true := by decide +kernel
theorem c5 : upto (okCover 5) 33 = true := by decide +kernel
theorem c6 : upto (okCover 6) 65 = true := by decide +kernel
theorem c7 : upto (okCover 7) 129 = true := by decide +kernel
theorem c8 : upto (okCover 8) 257 = true := by decide +kernel
theorem c9 : upto (okCover 9) 513 = true := by decide +kernel
theorem c10 : upto (okCover 10) 1025 = true := by decide +kernel
theorem s0 : upto (okSpots 0) 1 = true := by decide +kernel
theorem s1 : upto (okSpots 1) 2 = true := by decide +kernel
theorem s2 : upto (okSpots 2) 4 = true := by decide +kernel
theorem s3 : upto (okSpots 3) 8 = true := by decide +kernel
theorem s4 : upto (okSpots 4) 16 = true := by decide +kernel
theorem s5 : upto (okSpots 5) 32 = true := by decide +kernel
theorem s6 : upto (okSpots 6) 64 = true := by decide +kernel
theorem s7 : upto (okSpots 7) 128 = true := by decide +kernel
theorem s8 : upto (okSpots 8) 256 = true := by decide +kernel
theorem s9 : upto (okSpots 9) 512 = true := by decide +kernel
theorem s10 : upto (okSpots 10) 1024 = true := by decide +kernel

theorem cover_ok (n : Nat) (hn : n < 11) (t : Nat) (ht : t < 2 ^ n + 1) : okCover n t = true := by
  match n, hn with
  | 0, _ => exact upto_get _ _ c0 t ht
  | 1, _ => exact upto_get _ _ c1 t ht
  | 2, _ => exact upto_get _ _ c2 t ht
  | 3, _ => exact upto_get _ _ c3 t ht
  | 4, _ => exact upto_get _ _ c4 t ht
  | 5, _ => exact upto_get _ _ c5 t ht
  | 6, _ => exact upto_get _ _ c6 t ht
  | 7, _ => exact upto_get _ _ c7 t ht
  | 8, _ => exact upto_get _ _ c8 t ht
  | 9, _ => exact upto_get _ _ c9 t ht
  | 10, _ => exact upto_get _ _ c10 t ht

theorem spots_ok (n : Nat) (hn : n < 11) (t : Nat) (ht : t < 2 ^ n) : okSpots n t = true := by
  match n, hn with
  | 0, _ => exact upto_get _ _ s0 t ht
  | 1, _ => exact upto_get _ _ s1 t ht
  | 2, _ => exact upto_get _ _ s2 t ht
  | 3, _ => exact upto_get _ _ s3 t ht
  | 4, _ => exact upto_get _ _ s4 t ht
  | 5, _ => exact upto_get _ _ s5 t ht
  | 6, _ => exact upto_get _ _ s6 t ht
  | 7, _ => exact upto_get _ _ s7 t ht
  | 8, _ => exact upto_get _ _ s8 t ht
  | 9, _ => exact upto_get _ _ s9 t ht
  | 10, _ => exact upto_get _ _ s10 t ht

theorem longs : ∀ n : Fin 11, hushref9_Long.f 20 (n.val : Int) = some ((2 ^ n.val : Nat) : Int) := by decide +kernel
theorem long_ev (n : Nat) (h : n < 11) : Ev (fun k => hushref9_Long.f k (n : Int)) ((2 ^ n : Nat) : Int) := Ev.of (hushref9_Long.mono _) (longs ⟨n, h⟩)
theorem shls : ∀ n : Fin 11, shl .i64 1 (n.val : Int) = ((2 ^ n.val : Nat) : Int) := by decide +kernel

theorem wrongHigh_in {h : Int} (h0 : 0 ≤ h) (h1 : h ≤ 10) : tree_wrongHigh.f h = some 0 := by
  unfold tree_wrongHigh.f
  rw [if_neg (by omega), if_neg (by omega)]
theorem wrongHigh_out {h : Int} (ho : h < 0 ∨ h > 10) : tree_wrongHigh.f h = some 3 := by
  unfold tree_wrongHigh.f
  rcases ho with h0 | h0
  · rw [if_pos h0]
  · rw [if_neg (by omega), if_pos h0]

end Go.Proofs.Ytlgdipednnkmcaa.TreeCheck

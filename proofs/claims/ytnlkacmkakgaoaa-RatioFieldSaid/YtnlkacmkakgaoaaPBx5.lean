/- Functions of the translated program as Lean functions, and what their calls come to: written by this session's own program (wip/xprint.py) over the kit's print. Conditions stand in each theorem. -/
import Derived.Test.YtnlkacmkakgaoaaPBx0
import Derived.Test.YtnlkacmkakgaoaaPBx3
import Derived.Test.YtnlkacmkakgaoaaPBx4
namespace Go.Proofs.Ytnlkacmkakgaoaa.PB
open Go.RowKit Go.Proofs.YtnlkacmkakgaoaaW.PrintWords Go.Proofs.YtnlkacmkakgaoaaW.PrintLast Go.Proofs.YtnlkacmkakgaoaaW.PrintMore
attribute [local go_sem] max2_int min2_int max_two min_two max_three min_three max_four min_four   -- for this text's walks alone
set_option linter.unusedVariables false
set_option linter.unusedSimpArgs false

/-! ### ratio_Over: function 9 -/
theorem ratio_Over.blk2 {w : World} {g : Nat} {a b : Value} {t : TypeId} (h : w.heap[g]? = some (.cells #[a, b] t (0, 0))) : w.cell? ⟨g, 0, none⟩ = some a ∧ w.cell? ⟨g, 1, none⟩ = some b ∧ w.frozen? ⟨g, 0, none⟩ = false ∧ w.frozen? ⟨g, 1, none⟩ = false ∧ g < w.heap.size :=
  ⟨(blk_cell h 0).trans rfl, (blk_cell h 1).trans rfl, blk_frozen h 0, blk_frozen h 1, blk_lt h⟩
def ratio_Over.f (k : Nat) (a0 a1 b0 b1 : Int) : Option (Int × Int × Int) := (ratio_Right.f k a0 a1).bind fun t => (if t = true then ((ratio_Right.f k b0 b1).bind fun u => (if u = true then (ratio_Make.f k (wrap64 (a0 * b1)) (wrap64 (a1 * b0))) else (some (0, 0, 2)))) else (some (0, 0, 2)))
theorem ratio_Over.mono : ∀ a0 a1 a2 a3 k, LeO (ratio_Over.f k a0 a1 a2 a3) (ratio_Over.f (k + 1) a0 a1 a2 a3) := by
  intro a0 a1 a2 a3 k
  unfold ratio_Over.f
  repeat' first
      | (with_reducible exact ratio_Make.mono _ _ _)
      | (with_reducible exact ratio_Right.mono _ _ _)
      | (with_reducible exact LeO.refl _)
      | (with_reducible exact LeO.none _)
      | (with_reducible refine LeO.ite ?_ ?_)
      | (with_reducible refine LeO.bind ?_ (fun _ => ?_))
set_option maxHeartbeats 2000000 in
theorem ratio_Over.inner (k : Nat) (g h : Nat) (a0 a1 b0 b1 r1 r2 r3 : Int) (w : World) (hg : w.heap[g]? = some (.cells #[.int .i64 a0, .int .i64 a1] 23 (0, 0))) (hh : w.heap[h]? = some (.cells #[.int .i64 b0, .int .i64 b1] 23 (0, 0)))
    (hf : ratio_Make.f k (wrap64 (a0 * b1)) (wrap64 (a1 * b0)) = some (r1, r2, r3)) :
    Calls Try.prog 26 #[.pointer (some ⟨g, 0, none⟩), .pointer (some ⟨h, 0, none⟩)] w fun e w' => e = .returned (.tuple #[.agg #[.int .i64 r1, .int .i64 r2], .int .i64 r3]) ∧ Below w.heap.size w w' := by
  obtain ⟨c0, c1, _, _, lg⟩ := ratio_Over.blk2 hg
  obtain ⟨c2, c3, _, _, lh⟩ := ratio_Over.blk2 hh
  have Hf := Aside0.mk hf
  clear hf hg hh
  have hu23 := Try.underlying23
  go_enter Try.func26, Try.ntmps26
  go_wp2_with (go_at_call 12; (with_reducible refine (ratio_Make.calls k _ _ r1 r2 r3 _ Hf.out).mono ?_); rintro e w3 ⟨rfl, hb⟩; have k2 := blk_below (blk_new w (.cells #[.int .i64 0, .int .i64 0] 23)) hb; have HB := Aside0.mk (below_then (below_alloc (Below.refl w.heap.size w) _) (by simp) hb); clear Hf hb; obtain ⟨c5, c6, f5, f6, z5⟩ := ratio_Over.blk2 k2; clear k2)
  exact bodyPost_ret (v := .tuple #[.agg #[.int .i64 r1, .int .i64 r2], .int .i64 r3]) (by simp [results, Try.results26, go_sem, *]) rfl ⟨rfl, by
    repeat (refine below_set ?_ (Nat.le_refl _))
    exact HB.out⟩
set_option maxHeartbeats 2000000 in
theorem ratio_Over.yes (k : Nat) (g h : Nat) (a0 a1 b0 b1 r1 r2 r3 : Int) (w : World)
    (ha : ratio_Right.f k a0 a1 = some true) (hb' : ratio_Right.f k b0 b1 = some true)
    (hdo : ∀ W, Below w.heap.size w W → Calls Try.prog 26 #[.pointer (some ⟨g, 0, none⟩), .pointer (some ⟨h, 0, none⟩)] W fun e w' => e = .returned (.tuple #[.agg #[.int .i64 r1, .int .i64 r2], .int .i64 r3]) ∧ Below W.heap.size W w') :
    Calls Try.prog 25 #[.agg #[.int .i64 a0, .int .i64 a1], .agg #[.int .i64 b0, .int .i64 b1], .func (.func 26) #[] #[.pointer (some ⟨g, 0, none⟩), .pointer (some ⟨h, 0, none⟩)]] w fun e w' => e = .returned (.tuple #[.agg #[.int .i64 r1, .int .i64 r2], .int .i64 r3]) ∧ Below w.heap.size w w' := by
  have Ha := Aside0.mk ha
  have Hb := Aside0.mk hb'
  have Hd := Aside0.mk hdo
  clear ha hb' hdo
  have hu23 := Try.underlying23
  go_enter Try.func25, Try.ntmps25
  go_wp2_with (first
    | (go_at_call 14; (with_reducible refine (ratio_Right.calls k a0 a1 true _ Ha.out).mono ?_); rintro e w3 ⟨rfl, hb3⟩; have k1 := blk_below (blk_alloc (blk_new (w.alloc (.cells #[.int .i64 a0, .int .i64 a1] 23)) (.cells #[.int .i64 b0, .int .i64 b1] 23)) _) hb3; have k2 := blk_below (blk_new ((w.alloc (.cells #[.int .i64 a0, .int .i64 a1] 23)).alloc (.cells #[.int .i64 b0, .int .i64 b1] 23)) (.cells #[.int .i64 0, .int .i64 0] 23)) hb3; simp only [World.size_alloc] at k1 k2; obtain ⟨c1, c2, f1, f2, z1⟩ := ratio_Over.blk2 k1; have K2 := Aside0.mk k2; have HB := Aside0.mk (below_then (below_alloc (below_alloc (below_alloc (Below.refl w.heap.size w) _) _) _) (by simp; omega) hb3); clear Ha hb3 k1 k2)
    | (go_at_call 14; (with_reducible refine (ratio_Right.calls k b0 b1 true _ Hb.out).mono ?_); rintro e w4 ⟨rfl, hb4⟩; have K2 := Aside0.mk (blk_below K2.out hb4); have HB := Aside0.mk (below_then HB.out HB.out.size hb4); clear Hb hb4)
    | (go_at_call 26; (with_reducible refine (Hd.out _ HB.out).mono ?_); rintro e w5 ⟨rfl, hb5⟩; have k2 := blk_below K2.out hb5; have HB := Aside0.mk (below_then HB.out HB.out.size hb5); clear Hd hb5; obtain ⟨c5, c6, f5, f6, z5⟩ := ratio_Over.blk2 k2; clear k2))
  exact bodyPost_ret (v := .tuple #[.agg #[.int .i64 r1, .int .i64 r2], .int .i64 r3]) (by simp [results, Try.results25, go_sem, *]) rfl ⟨rfl, by
    repeat (refine below_set ?_ (show w.heap.size ≤ w.heap.size + 1 + 1 by omega))
    exact HB.out⟩
set_option maxHeartbeats 2000000 in
theorem ratio_Over.noA (k : Nat) (fv : Value) (a0 a1 b0 b1 : Int) (w : World)
    (ha : ratio_Right.f k a0 a1 = some false) :
    Calls Try.prog 25 #[.agg #[.int .i64 a0, .int .i64 a1], .agg #[.int .i64 b0, .int .i64 b1], fv] w fun e w' => e = .returned (.tuple #[.agg #[.int .i64 0, .int .i64 0], .int .i64 2]) ∧ Below w.heap.size w w' := by
  have Ha := Aside0.mk ha
  clear ha
  have hu23 := Try.underlying23
  go_enter Try.func25, Try.ntmps25
  go_wp2_with (first
    | (go_at_call 14; (with_reducible refine (ratio_Right.calls k a0 a1 false _ Ha.out).mono ?_); rintro e w3 ⟨rfl, hb3⟩; have k2 := blk_below (blk_new ((w.alloc (.cells #[.int .i64 a0, .int .i64 a1] 23)).alloc (.cells #[.int .i64 b0, .int .i64 b1] 23)) (.cells #[.int .i64 0, .int .i64 0] 23)) hb3; simp only [World.size_alloc] at k2; obtain ⟨c1, c2, f1, f2, z1⟩ := ratio_Over.blk2 k2; have HB := Aside0.mk (below_then (below_alloc (below_alloc (below_alloc (Below.refl w.heap.size w) _) _) _) (by simp; omega) hb3); clear Ha hb3 k2))
  exact bodyPost_ret (v := .tuple #[.agg #[.int .i64 0, .int .i64 0], .int .i64 2]) (by simp [results, Try.results25, go_sem, *]) rfl ⟨rfl, by
    repeat (refine below_set ?_ (show w.heap.size ≤ w.heap.size + 1 + 1 by omega))
    exact HB.out⟩
set_option maxHeartbeats 2000000 in
theorem ratio_Over.noB (k : Nat) (fv : Value) (a0 a1 b0 b1 : Int) (w : World)
    (ha : ratio_Right.f k a0 a1 = some true) (hb' : ratio_Right.f k b0 b1 = some false) :
    Calls Try.prog 25 #[.agg #[.int .i64 a0, .int .i64 a1], .agg #[.int .i64 b0, .int .i64 b1], fv] w fun e w' => e = .returned (.tuple #[.agg #[.int .i64 0, .int .i64 0], .int .i64 2]) ∧ Below w.heap.size w w' := by
  have Ha := Aside0.mk ha
  have Hb := Aside0.mk hb'
  clear ha hb'
  have hu23 := Try.underlying23
  go_enter Try.func25, Try.ntmps25
  go_wp2_with (first
    | (go_at_call 14; (with_reducible refine (ratio_Right.calls k a0 a1 true _ Ha.out).mono ?_); rintro e w3 ⟨rfl, hb3⟩; have k1 := blk_below (blk_alloc (blk_new (w.alloc (.cells #[.int .i64 a0, .int .i64 a1] 23)) (.cells #[.int .i64 b0, .int .i64 b1] 23)) _) hb3; have k2 := blk_below (blk_new ((w.alloc (.cells #[.int .i64 a0, .int .i64 a1] 23)).alloc (.cells #[.int .i64 b0, .int .i64 b1] 23)) (.cells #[.int .i64 0, .int .i64 0] 23)) hb3; simp only [World.size_alloc] at k1 k2; obtain ⟨c1, c2, f1, f2, z1⟩ := ratio_Over.blk2 k1; have K2 := Aside0.mk k2; have HB := Aside0.mk (below_then (below_alloc (below_alloc (below_alloc (Below.refl w.heap.size w) _) _) _) (by simp; omega) hb3); clear Ha hb3 k1 k2)
    | (go_at_call 14; (with_reducible refine (ratio_Right.calls k b0 b1 false _ Hb.out).mono ?_); rintro e w4 ⟨rfl, hb4⟩; have k2 := blk_below K2.out hb4; have HB := Aside0.mk (below_then HB.out HB.out.size hb4); clear Hb hb4; obtain ⟨c5, c6, f5, f6, z5⟩ := ratio_Over.blk2 k2; clear k2))
  exact bodyPost_ret (v := .tuple #[.agg #[.int .i64 0, .int .i64 0], .int .i64 2]) (by simp [results, Try.results25, go_sem, *]) rfl ⟨rfl, by
    repeat (refine below_set ?_ (show w.heap.size ≤ w.heap.size + 1 + 1 by omega))
    exact HB.out⟩
set_option maxHeartbeats 2000000 in
theorem ratio_Over.outer (k : Nat) (a0 a1 b0 b1 r1 r2 r3 : Int) (w : World)
    (hdo : ∀ W (g h : Nat), W.heap[g]? = some (.cells #[.int .i64 a0, .int .i64 a1] 23 (0, 0)) → W.heap[h]? = some (.cells #[.int .i64 b0, .int .i64 b1] 23 (0, 0)) → Calls Try.prog 25 #[.agg #[.int .i64 a0, .int .i64 a1], .agg #[.int .i64 b0, .int .i64 b1], .func (.func 26) #[] #[.pointer (some ⟨g, 0, none⟩), .pointer (some ⟨h, 0, none⟩)]] W fun e w' => e = .returned (.tuple #[.agg #[.int .i64 r1, .int .i64 r2], .int .i64 r3]) ∧ Below W.heap.size W w') :
    Calls Try.prog 9 #[.agg #[.int .i64 a0, .int .i64 a1], .agg #[.int .i64 b0, .int .i64 b1]] w fun e w' => e = .returned (.tuple #[.agg #[.int .i64 r1, .int .i64 r2], .int .i64 r3]) ∧ Below w.heap.size w w' := by
  have Hd := Aside0.mk hdo
  clear hdo
  have hu23 := Try.underlying23
  have hmf : ∀ (fn : Fn) (first cap : Array Value) (w : World), (Instr.makeFunc fn first cap).run Try.prog w = .ok (.func fn first cap) w := fun _ _ _ _ => rfl
  have e1 := blk_alloc (blk_alloc (blk_new w (.cells #[.int .i64 a0, .int .i64 a1] 23)) (.cells #[.int .i64 b0, .int .i64 b1] 23)) (.cells #[.int .i64 0, .int .i64 0] 23)
  have e2 := blk_alloc (blk_new (w.alloc (.cells #[.int .i64 a0, .int .i64 a1] 23)) (.cells #[.int .i64 b0, .int .i64 b1] 23)) (.cells #[.int .i64 0, .int .i64 0] 23)
  simp only [World.size_alloc] at e1 e2
  have E1 := Aside0.mk e1
  have E2 := Aside0.mk e2
  clear e1 e2
  go_enter Try.func9, Try.ntmps9
  go_wp2_with (go_at_call 25; (with_reducible refine (Hd.out _ _ _ E1.out E2.out).mono ?_); rintro e w3 ⟨rfl, hb3⟩; have k2 := blk_below (blk_new ((w.alloc (.cells #[.int .i64 a0, .int .i64 a1] 23)).alloc (.cells #[.int .i64 b0, .int .i64 b1] 23)) (.cells #[.int .i64 0, .int .i64 0] 23)) hb3; simp only [World.size_alloc] at k2; have HB := Aside0.mk (below_then (below_alloc (below_alloc (below_alloc (Below.refl w.heap.size w) _) _) _) (by simp; omega) hb3); clear Hd E1 E2 hb3; obtain ⟨c5, c6, f5, f6, z5⟩ := ratio_Over.blk2 k2; clear k2)
  exact bodyPost_ret (v := .tuple #[.agg #[.int .i64 r1, .int .i64 r2], .int .i64 r3]) (by simp [results, Try.results9, go_sem, *]) rfl ⟨rfl, by
    repeat (refine below_set ?_ (show w.heap.size ≤ w.heap.size + 1 + 1 by omega))
    exact HB.out⟩
theorem ratio_Over.calls (k : Nat) (a0 a1 b0 b1 r1 r2 r3 : Int) (w : World) (h : ratio_Over.f k a0 a1 b0 b1 = some (r1, r2, r3)) :
    Calls Try.prog 9 #[.agg #[.int .i64 a0, .int .i64 a1], .agg #[.int .i64 b0, .int .i64 b1]] w fun e w' => e = .returned (.tuple #[.agg #[.int .i64 r1, .int .i64 r2], .int .i64 r3]) ∧ Below w.heap.size w w' := by
  unfold ratio_Over.f at h
  obtain ⟨t, ht, h⟩ := Option.bind_eq_some_iff.mp h
  cases t with
  | false =>
    have h' : some (0, 0, 2) = some (r1, r2, r3) := h
    simp only [Option.some.injEq, Prod.mk.injEq] at h'
    obtain ⟨rfl, rfl, rfl⟩ := h'
    exact ratio_Over.outer k a0 a1 b0 b1 0 0 2 w (fun W g h _ _ => ratio_Over.noA k _ a0 a1 b0 b1 W ht)
  | true =>
    obtain ⟨u, hu, h⟩ := Option.bind_eq_some_iff.mp (show _ = _ from h)
    cases u with
    | false =>
      have h' : some (0, 0, 2) = some (r1, r2, r3) := h
      simp only [Option.some.injEq, Prod.mk.injEq] at h'
      obtain ⟨rfl, rfl, rfl⟩ := h'
      exact ratio_Over.outer k a0 a1 b0 b1 0 0 2 w (fun W g h _ _ => ratio_Over.noB k _ a0 a1 b0 b1 W ht hu)
    | true =>
      exact ratio_Over.outer k a0 a1 b0 b1 r1 r2 r3 w (fun W g h' hg hh => ratio_Over.yes k g h' a0 a1 b0 b1 r1 r2 r3 W ht hu (fun W2 hb => ratio_Over.inner k g h' a0 a1 b0 b1 r1 r2 r3 W2 (blk_below hg hb) (blk_below hh hb) h))


/-! ### ratio_Minus: function 10 -/
theorem ratio_Minus.blk2 {w : World} {g : Nat} {a b : Value} {t : TypeId} (h : w.heap[g]? = some (.cells #[a, b] t (0, 0))) : w.cell? ⟨g, 0, none⟩ = some a ∧ w.cell? ⟨g, 1, none⟩ = some b ∧ w.frozen? ⟨g, 0, none⟩ = false ∧ w.frozen? ⟨g, 1, none⟩ = false ∧ g < w.heap.size :=
  ⟨(blk_cell h 0).trans rfl, (blk_cell h 1).trans rfl, blk_frozen h 0, blk_frozen h 1, blk_lt h⟩
def ratio_Minus.f (k : Nat) (a0 a1 b0 b1 : Int) : Option (Int × Int × Int) := (ratio_Right.f k a0 a1).bind fun t => (if t = true then ((ratio_Right.f k b0 b1).bind fun u => (if u = true then (ratio_Make.f k (wrap64 ((wrap64 (a0 * b1)) - (wrap64 (b0 * a1)))) (wrap64 (a1 * b1))) else (some (0, 0, 2)))) else (some (0, 0, 2)))
theorem ratio_Minus.mono : ∀ a0 a1 a2 a3 k, LeO (ratio_Minus.f k a0 a1 a2 a3) (ratio_Minus.f (k + 1) a0 a1 a2 a3) := by
  intro a0 a1 a2 a3 k
  unfold ratio_Minus.f
  repeat' first
      | (with_reducible exact ratio_Make.mono _ _ _)
      | (with_reducible exact ratio_Right.mono _ _ _)
      | (with_reducible exact LeO.refl _)
      | (with_reducible exact LeO.none _)
      | (with_reducible refine LeO.ite ?_ ?_)
      | (with_reducible refine LeO.bind ?_ (fun _ => ?_))
set_option maxHeartbeats 2000000 in
theorem ratio_Minus.inner (k : Nat) (g h : Nat) (a0 a1 b0 b1 r1 r2 r3 : Int) (w : World) (hg : w.heap[g]? = some (.cells #[.int .i64 a0, .int .i64 a1] 23 (0, 0))) (hh : w.heap[h]? = some (.cells #[.int .i64 b0, .int .i64 b1] 23 (0, 0)))
    (hf : ratio_Make.f k (wrap64 ((wrap64 (a0 * b1)) - (wrap64 (b0 * a1)))) (wrap64 (a1 * b1)) = some (r1, r2, r3)) :
    Calls Try.prog 27 #[.pointer (some ⟨g, 0, none⟩), .pointer (some ⟨h, 0, none⟩)] w fun e w' => e = .returned (.tuple #[.agg #[.int .i64 r1, .int .i64 r2], .int .i64 r3]) ∧ Below w.heap.size w w' := by
  obtain ⟨c0, c1, _, _, lg⟩ := ratio_Minus.blk2 hg
  obtain ⟨c2, c3, _, _, lh⟩ := ratio_Minus.blk2 hh
  have Hf := Aside0.mk hf
  clear hf hg hh
  have hu23 := Try.underlying23
  go_enter Try.func27, Try.ntmps27
  go_wp2_with (go_at_call 12; (with_reducible refine (ratio_Make.calls k _ _ r1 r2 r3 _ Hf.out).mono ?_); rintro e w3 ⟨rfl, hb⟩; have k2 := blk_below (blk_new w (.cells #[.int .i64 0, .int .i64 0] 23)) hb; have HB := Aside0.mk (below_then (below_alloc (Below.refl w.heap.size w) _) (by simp) hb); clear Hf hb; obtain ⟨c5, c6, f5, f6, z5⟩ := ratio_Minus.blk2 k2; clear k2)
  exact bodyPost_ret (v := .tuple #[.agg #[.int .i64 r1, .int .i64 r2], .int .i64 r3]) (by simp [results, Try.results27, go_sem, *]) rfl ⟨rfl, by
    repeat (refine below_set ?_ (Nat.le_refl _))
    exact HB.out⟩
set_option maxHeartbeats 2000000 in
theorem ratio_Minus.yes (k : Nat) (g h : Nat) (a0 a1 b0 b1 r1 r2 r3 : Int) (w : World)
    (ha : ratio_Right.f k a0 a1 = some true) (hb' : ratio_Right.f k b0 b1 = some true)
    (hdo : ∀ W, Below w.heap.size w W → Calls Try.prog 27 #[.pointer (some ⟨g, 0, none⟩), .pointer (some ⟨h, 0, none⟩)] W fun e w' => e = .returned (.tuple #[.agg #[.int .i64 r1, .int .i64 r2], .int .i64 r3]) ∧ Below W.heap.size W w') :
    Calls Try.prog 25 #[.agg #[.int .i64 a0, .int .i64 a1], .agg #[.int .i64 b0, .int .i64 b1], .func (.func 27) #[] #[.pointer (some ⟨g, 0, none⟩), .pointer (some ⟨h, 0, none⟩)]] w fun e w' => e = .returned (.tuple #[.agg #[.int .i64 r1, .int .i64 r2], .int .i64 r3]) ∧ Below w.heap.size w w' := by
  have Ha := Aside0.mk ha
  have Hb := Aside0.mk hb'
  have Hd := Aside0.mk hdo
  clear ha hb' hdo
  have hu23 := Try.underlying23
  go_enter Try.func25, Try.ntmps25
  go_wp2_with (first
    | (go_at_call 14; (with_reducible refine (ratio_Right.calls k a0 a1 true _ Ha.out).mono ?_); rintro e w3 ⟨rfl, hb3⟩; have k1 := blk_below (blk_alloc (blk_new (w.alloc (.cells #[.int .i64 a0, .int .i64 a1] 23)) (.cells #[.int .i64 b0, .int .i64 b1] 23)) _) hb3; have k2 := blk_below (blk_new ((w.alloc (.cells #[.int .i64 a0, .int .i64 a1] 23)).alloc (.cells #[.int .i64 b0, .int .i64 b1] 23)) (.cells #[.int .i64 0, .int .i64 0] 23)) hb3; simp only [World.size_alloc] at k1 k2; obtain ⟨c1, c2, f1, f2, z1⟩ := ratio_Minus.blk2 k1; have K2 := Aside0.mk k2; have HB := Aside0.mk (below_then (below_alloc (below_alloc (below_alloc (Below.refl w.heap.size w) _) _) _) (by simp; omega) hb3); clear Ha hb3 k1 k2)
    | (go_at_call 14; (with_reducible refine (ratio_Right.calls k b0 b1 true _ Hb.out).mono ?_); rintro e w4 ⟨rfl, hb4⟩; have K2 := Aside0.mk (blk_below K2.out hb4); have HB := Aside0.mk (below_then HB.out HB.out.size hb4); clear Hb hb4)
    | (go_at_call 27; (with_reducible refine (Hd.out _ HB.out).mono ?_); rintro e w5 ⟨rfl, hb5⟩; have k2 := blk_below K2.out hb5; have HB := Aside0.mk (below_then HB.out HB.out.size hb5); clear Hd hb5; obtain ⟨c5, c6, f5, f6, z5⟩ := ratio_Minus.blk2 k2; clear k2))
  exact bodyPost_ret (v := .tuple #[.agg #[.int .i64 r1, .int .i64 r2], .int .i64 r3]) (by simp [results, Try.results25, go_sem, *]) rfl ⟨rfl, by
    repeat (refine below_set ?_ (show w.heap.size ≤ w.heap.size + 1 + 1 by omega))
    exact HB.out⟩
set_option maxHeartbeats 2000000 in
theorem ratio_Minus.noA (k : Nat) (fv : Value) (a0 a1 b0 b1 : Int) (w : World)
    (ha : ratio_Right.f k a0 a1 = some false) :
    Calls Try.prog 25 #[.agg #[.int .i64 a0, .int .i64 a1], .agg #[.int .i64 b0, .int .i64 b1], fv] w fun e w' => e = .returned (.tuple #[.agg #[.int .i64 0, .int .i64 0], .int .i64 2]) ∧ Below w.heap.size w w' := by
  have Ha := Aside0.mk ha
  clear ha
  have hu23 := Try.underlying23
  go_enter Try.func25, Try.ntmps25
  go_wp2_with (first
    | (go_at_call 14; (with_reducible refine (ratio_Right.calls k a0 a1 false _ Ha.out).mono ?_); rintro e w3 ⟨rfl, hb3⟩; have k2 := blk_below (blk_new ((w.alloc (.cells #[.int .i64 a0, .int .i64 a1] 23)).alloc (.cells #[.int .i64 b0, .int .i64 b1] 23)) (.cells #[.int .i64 0, .int .i64 0] 23)) hb3; simp only [World.size_alloc] at k2; obtain ⟨c1, c2, f1, f2, z1⟩ := ratio_Minus.blk2 k2; have HB := Aside0.mk (below_then (below_alloc (below_alloc (below_alloc (Below.refl w.heap.size w) _) _) _) (by simp; omega) hb3); clear Ha hb3 k2))
  exact bodyPost_ret (v := .tuple #[.agg #[.int .i64 0, .int .i64 0], .int .i64 2]) (by simp [results, Try.results25, go_sem, *]) rfl ⟨rfl, by
    repeat (refine below_set ?_ (show w.heap.size ≤ w.heap.size + 1 + 1 by omega))
    exact HB.out⟩
set_option maxHeartbeats 2000000 in
theorem ratio_Minus.noB (k : Nat) (fv : Value) (a0 a1 b0 b1 : Int) (w : World)
    (ha : ratio_Right.f k a0 a1 = some true) (hb' : ratio_Right.f k b0 b1 = some false) :
    Calls Try.prog 25 #[.agg #[.int .i64 a0, .int .i64 a1], .agg #[.int .i64 b0, .int .i64 b1], fv] w fun e w' => e = .returned (.tuple #[.agg #[.int .i64 0, .int .i64 0], .int .i64 2]) ∧ Below w.heap.size w w' := by
  have Ha := Aside0.mk ha
  have Hb := Aside0.mk hb'
  clear ha hb'
  have hu23 := Try.underlying23
  go_enter Try.func25, Try.ntmps25
  go_wp2_with (first
    | (go_at_call 14; (with_reducible refine (ratio_Right.calls k a0 a1 true _ Ha.out).mono ?_); rintro e w3 ⟨rfl, hb3⟩; have k1 := blk_below (blk_alloc (blk_new (w.alloc (.cells #[.int .i64 a0, .int .i64 a1] 23)) (.cells #[.int .i64 b0, .int .i64 b1] 23)) _) hb3; have k2 := blk_below (blk_new ((w.alloc (.cells #[.int .i64 a0, .int .i64 a1] 23)).alloc (.cells #[.int .i64 b0, .int .i64 b1] 23)) (.cells #[.int .i64 0, .int .i64 0] 23)) hb3; simp only [World.size_alloc] at k1 k2; obtain ⟨c1, c2, f1, f2, z1⟩ := ratio_Minus.blk2 k1; have K2 := Aside0.mk k2; have HB := Aside0.mk (below_then (below_alloc (below_alloc (below_alloc (Below.refl w.heap.size w) _) _) _) (by simp; omega) hb3); clear Ha hb3 k1 k2)
    | (go_at_call 14; (with_reducible refine (ratio_Right.calls k b0 b1 false _ Hb.out).mono ?_); rintro e w4 ⟨rfl, hb4⟩; have k2 := blk_below K2.out hb4; have HB := Aside0.mk (below_then HB.out HB.out.size hb4); clear Hb hb4; obtain ⟨c5, c6, f5, f6, z5⟩ := ratio_Minus.blk2 k2; clear k2))
  exact bodyPost_ret (v := .tuple #[.agg #[.int .i64 0, .int .i64 0], .int .i64 2]) (by simp [results, Try.results25, go_sem, *]) rfl ⟨rfl, by
    repeat (refine below_set ?_ (show w.heap.size ≤ w.heap.size + 1 + 1 by omega))
    exact HB.out⟩
set_option maxHeartbeats 2000000 in
theorem ratio_Minus.outer (k : Nat) (a0 a1 b0 b1 r1 r2 r3 : Int) (w : World)
    (hdo : ∀ W (g h : Nat), W.heap[g]? = some (.cells #[.int .i64 a0, .int .i64 a1] 23 (0, 0)) → W.heap[h]? = some (.cells #[.int .i64 b0, .int .i64 b1] 23 (0, 0)) → Calls Try.prog 25 #[.agg #[.int .i64 a0, .int .i64 a1], .agg #[.int .i64 b0, .int .i64 b1], .func (.func 27) #[] #[.pointer (some ⟨g, 0, none⟩), .pointer (some ⟨h, 0, none⟩)]] W fun e w' => e = .returned (.tuple #[.agg #[.int .i64 r1, .int .i64 r2], .int .i64 r3]) ∧ Below W.heap.size W w') :
    Calls Try.prog 10 #[.agg #[.int .i64 a0, .int .i64 a1], .agg #[.int .i64 b0, .int .i64 b1]] w fun e w' => e = .returned (.tuple #[.agg #[.int .i64 r1, .int .i64 r2], .int .i64 r3]) ∧ Below w.heap.size w w' := by
  have Hd := Aside0.mk hdo
  clear hdo
  have hu23 := Try.underlying23
  have hmf : ∀ (fn : Fn) (first cap : Array Value) (w : World), (Instr.makeFunc fn first cap).run Try.prog w = .ok (.func fn first cap) w := fun _ _ _ _ => rfl
  have e1 := blk_alloc (blk_alloc (blk_new w (.cells #[.int .i64 a0, .int .i64 a1] 23)) (.cells #[.int .i64 b0, .int .i64 b1] 23)) (.cells #[.int .i64 0, .int .i64 0] 23)
  have e2 := blk_alloc (blk_new (w.alloc (.cells #[.int .i64 a0, .int .i64 a1] 23)) (.cells #[.int .i64 b0, .int .i64 b1] 23)) (.cells #[.int .i64 0, .int .i64 0] 23)
  simp only [World.size_alloc] at e1 e2
  have E1 := Aside0.mk e1
  have E2 := Aside0.mk e2
  clear e1 e2
  go_enter Try.func10, Try.ntmps10
  go_wp2_with (go_at_call 25; (with_reducible refine (Hd.out _ _ _ E1.out E2.out).mono ?_); rintro e w3 ⟨rfl, hb3⟩; have k2 := blk_below (blk_new ((w.alloc (.cells #[.int .i64 a0, .int .i64 a1] 23)).alloc (.cells #[.int .i64 b0, .int .i64 b1] 23)) (.cells #[.int .i64 0, .int .i64 0] 23)) hb3; simp only [World.size_alloc] at k2; have HB := Aside0.mk (below_then (below_alloc (below_alloc (below_alloc (Below.refl w.heap.size w) _) _) _) (by simp; omega) hb3); clear Hd E1 E2 hb3; obtain ⟨c5, c6, f5, f6, z5⟩ := ratio_Minus.blk2 k2; clear k2)
  exact bodyPost_ret (v := .tuple #[.agg #[.int .i64 r1, .int .i64 r2], .int .i64 r3]) (by simp [results, Try.results10, go_sem, *]) rfl ⟨rfl, by
    repeat (refine below_set ?_ (show w.heap.size ≤ w.heap.size + 1 + 1 by omega))
    exact HB.out⟩
theorem ratio_Minus.calls (k : Nat) (a0 a1 b0 b1 r1 r2 r3 : Int) (w : World) (h : ratio_Minus.f k a0 a1 b0 b1 = some (r1, r2, r3)) :
    Calls Try.prog 10 #[.agg #[.int .i64 a0, .int .i64 a1], .agg #[.int .i64 b0, .int .i64 b1]] w fun e w' => e = .returned (.tuple #[.agg #[.int .i64 r1, .int .i64 r2], .int .i64 r3]) ∧ Below w.heap.size w w' := by
  unfold ratio_Minus.f at h
  obtain ⟨t, ht, h⟩ := Option.bind_eq_some_iff.mp h
  cases t with
  | false =>
    have h' : some (0, 0, 2) = some (r1, r2, r3) := h
    simp only [Option.some.injEq, Prod.mk.injEq] at h'
    obtain ⟨rfl, rfl, rfl⟩ := h'
    exact ratio_Minus.outer k a0 a1 b0 b1 0 0 2 w (fun W g h _ _ => ratio_Minus.noA k _ a0 a1 b0 b1 W ht)
  | true =>
    obtain ⟨u, hu, h⟩ := Option.bind_eq_some_iff.mp (show _ = _ from h)
    cases u with
    | false =>
      have h' : some (0, 0, 2) = some (r1, r2, r3) := h
      simp only [Option.some.injEq, Prod.mk.injEq] at h'
      obtain ⟨rfl, rfl, rfl⟩ := h'
      exact ratio_Minus.outer k a0 a1 b0 b1 0 0 2 w (fun W g h _ _ => ratio_Minus.noB k _ a0 a1 b0 b1 W ht hu)
    | true =>
      exact ratio_Minus.outer k a0 a1 b0 b1 r1 r2 r3 w (fun W g h' hg hh => ratio_Minus.yes k g h' a0 a1 b0 b1 r1 r2 r3 W ht hu (fun W2 hb => ratio_Minus.inner k g h' a0 a1 b0 b1 r1 r2 r3 W2 (blk_below hg hb) (blk_below hh hb) h))


end Go.Proofs.Ytnlkacmkakgaoaa.PB

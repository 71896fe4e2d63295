/- Functions of the translated program as Lean functions, and what their calls come to: written by this session's own program (wip/xprint.py) over the kit's print. Conditions stand in each theorem. -/
import Derived.Test.YtnlkacmkakgaoaaPAx0
import Derived.Test.YtnlkacmkakgaoaaPAx3
import Derived.Test.YtnlkacmkakgaoaaPAx4
namespace Go.Proofs.Ytnlkacmkakgaoaa.PA
open Go.RowKit Go.Proofs.YtnlkacmkakgaoaaW.PrintWords Go.Proofs.YtnlkacmkakgaoaaW.PrintLast Go.Proofs.YtnlkacmkakgaoaaW.PrintMore
attribute [local go_sem] max2_int min2_int max_two min_two max_three min_three max_four min_four   -- for this text's walks alone
set_option linter.unusedVariables false
set_option linter.unusedSimpArgs false

/-! ### ratio_Over: function 9 -/
theorem ratio_Over.blk2 {w : World} {g : Nat} {a b : Value} {t : TypeId} (h : w.heap[g]? = some (.cells #[a, b] t (0, 0))) : w.cell? ⟨g, 0, none⟩ = some a ∧ w.cell? ⟨g, 1, none⟩ = some b ∧ w.frozen? ⟨g, 0, none⟩ = false ∧ w.frozen? ⟨g, 1, none⟩ = false ∧ g < w.heap.size :=
  ⟨(blk_cell h 0).trans rfl, (blk_cell h 1).trans rfl, blk_frozen h 0, blk_frozen h 1, blk_lt h⟩
def ratio_Over.f (k : Nat) (a0 a1 b0 b1 : Int) : Option (Int × Int × Int) := (ratio_Right.f k a0 a1).bind fun t => (if t = true then ((ratio_Right.f k b0 b1).bind fun u => (if u = true then (ratio_Make.f k (wrap64 (a0 * b1)) (wrap64 (a1 * b0))) else (some (0, 0, 2)))) else (some (0, 0, 2)))
theorem ratio_Over.mono : ∀ a0 a1 a2 a3 k, LeO (ratio_Over.f k a0 a1 a2 a3) (ratio_Over.f (k + 1) a0 a1 a2 a3) := by
  intro a0 a1 a2 a3 k
  unfold ratio_Over.f
  repeat' first
      | (with_reducible exact ratio_Make.mono _ _ _)
      | (with_reducible exact ratio_Right.mono _ _ _)
      | (with_reducible exact LeO.refl _)
      | (with_reducible exact LeO.none _)
      | (with_reducible refine LeO.ite ?_ ?_)
      | (with_reducible refine LeO.bind ?_ (fun _ => ?_))
set_option maxHeartbeats 2000000 in
theorem ratio_Over.inner (k : Nat) (g h : Nat) (a0 a1 b0 b1 r1 r2 r3 : Int) (w : World) (hg : w.heap[g]? = some (.cells #[.int .i64 a0, .int .i64 a1] 23 (0, 0))) (hh : w.heap[h]? = some (.cells #[.int .i64 b0, .int .i64 b1] 23 (0, 0)))
    (hf : ratio_Make.f k (wrap64 (a0 * b1)) (wrap64 (a1 * b0)) = some (r1, r2, r3)) :
    Calls Try.prog 26 #[.pointer (some ⟨g, 0, none⟩), .pointer (some ⟨h, 0, none⟩)] w fun e w' => e = .returned (.tuple #[.agg #[.int .i64 r1, .int .i64 r2], .int .i64 r3]) ∧ Below w.heap.size w w' := by
  obtain ⟨c0, c1, _, _, lg⟩ := ratio_Over.blk2 hg
  obtain ⟨c2, c3, _, _, lh⟩ := ratio_Over.blk2 hh
  have Hf := Aside0.mk hf
  clear hf hg hh
  have hu23 := Try.underlying23
  go_enter Try.func26, Try.ntmps26
  go_wp2_with (go_at_call 12; (with_reducible refine (ratio_Make.calls k _ _ r1 r2 r3 _ Hf.out).mono ?_); rintro e w3 ⟨rfl, hb⟩; have k2 := blk_below (blk_new w (.cells #[.int .i64 0, .int .i64 0] 23)) hb; have HB := Aside0.mk (below_then (below_alloc (Below.refl w.heap.size w) _) (by simp) hb); clear Hf hb; obtain ⟨c5, c6, f5, f6, z5⟩ := ratio_Over.blk2 k2; clear k2)
  exact bodyPost_ret (v := .tuple #[.agg #[.int .i64 r1, .int .i64 r2], .int .i64 r3]) (by simp [results, Try.results26, go_sem, *]) rfl ⟨rfl, by
    repeat (refine below_set ?_ (Nat.le_refl _))
    exact HB.out⟩
set_option maxHeartbeats 2000000 in
theorem ratio_Over.yes (k : Nat) (g h : Nat) (a0 a1 b0 b1 r1 r2 r3 : Int) (w : World)
    (ha : ratio_Right.f k a0 a1 = some true) (hb' : ratio_Right.f k b0 b1 = some true)
    (hdo : ∀ W, Below w.heap.size w W → Calls Try.prog 26 #[.pointer (some ⟨g, 0, none⟩), .pointer (some ⟨h, 0, none⟩)] W fun e w' => e = .returned (.tuple #[.agg #[.int .i64 r1, .int .i64 r2], .int .i64 r3]) ∧ Below W.heap.size W w') :
    Calls Try.prog 25 #[.agg #[.int .i64 a0, .int .i64 a1], .agg #[.int .i64 b0, .int .i64 b1], .func (.func 26) #[] #[.pointer (some ⟨g, 0, none⟩), .pointer (some ⟨h, 0, none⟩)]] w fun e w' => e = .returned (.tuple #[.agg #[.int .i64 r1, .int .i64 r2], .int .i64 r3]) ∧ Below w.heap.size w w' := by
  have Ha := Aside0.mk ha
  have Hb := Aside0.mk hb'
  have Hd := Aside0.mk hdo
  clear ha hb' hdo
  have hu23 := Try.underlying23
  go_enter Try.func25, Try.ntmps25
  go_wp2_with (first
    | (go_at_call 14; (with_reducible refine (ratio_Right.calls k a0 a1 true _ Ha.out).mono ?_); rintro e w3 ⟨rfl, hb3⟩; have k1 := blk_below (blk_alloc (blk_new (w.alloc (.cells #[.int .i64 a0, .int .i64 a1] 23)) (.cells #[.int .i64 b0, .int .i64 b1] 23)) _) hb3; have k2 := blk_below (blk_new ((w.alloc (.cells #[.int .i64 a0, .int .i64 a1] 23)).alloc (.cells #[.int .i64 b0, .int .i64 b1] 23)) (.cells #[.int .i64 0, .int .i64 0] 23)) hb3; simp only [World.size_alloc] at k1 k2; obtain ⟨c1, c2, f1, f2, z1⟩ := ratio_Over.blk2 k1; have K2 := Aside0.mk k2; have HB := Aside0.mk (below_then (below_alloc (below_alloc (below_alloc (Below.refl w.heap.size w) _) _) _) (by simp; omega) hb3); clear Ha hb3 k1 k2)
    | (go_at_call 14; (with_reducible refine (ratio_Right.calls k b0 b1 true _ Hb.out).mono ?_); rintro e w4 ⟨rfl, hb4⟩; have K2 := Aside0.mk (blk_below K2.out hb4); have HB := Aside0.mk (below_then HB.out HB.out.size hb4); clear Hb hb4)
    | (go_at_call 26; (with_reducible refine (Hd.out _ HB.out).mono ?_); rintro e w5 ⟨rfl, hb5⟩; have k2 := blk_below K2.out hb5; have HB := Aside0.mk (below_then HB.out HB.out.size hb5); clear Hd hb5; obtain ⟨c5, c6, f5, f6, z5⟩ := ratio_Over.blk2 k2; clear k2))
  exact bodyPost_ret (v := .tuple #[.agg #[.int .i64 r1, .int .i64 r2], .int .i64 r3]) (by simp [results, Try.results25, go_sem, *]) rfl ⟨rfl, by
    repeat (refine below_set ?_ (show w.heap.size ≤ w.heap.size + 1 + 1 by omega))
    exact HB.out⟩
set_option maxHeartbeats 2000000 in
theorem ratio_Over.noA (k : Nat) (fv : Value) (a0 a1 b0 b1 : Int) (w : World)
    (ha : ratio_Right.f k a0 a1 = some false) :
    Calls Try.prog 25 #[.agg #[.int .i64 a0, .int .i64 a1], .agg #[.int .i64 b0, .int .i64 b1], fv] w fun e w' => e = .returned (.tuple #[.agg #[.int .i64 0, .int .i64 0], .int .i64 2]) ∧ Below w.heap.size w w' := by
  have Ha := Aside0.mk ha
  clear ha
  have hu23 := Try.underlying23
  go_enter Try.func25, Try.ntmps25
  go_wp2_with (first
    | (go_at_call 14; (with_reducible refine (ratio_Right.calls k a0 a1 false _ Ha.out).mono ?_); rintro e w3 ⟨rfl, hb3⟩; have k2 := blk_below (blk_new ((w.alloc (.cells #[.int .i64 a0, .int .i64 a1] 23)).alloc (.cells #[.int .i64 b0, .int .i64 b1] 23)) (.cells #[.int .i64 0, .int .i64 0] 23)) hb3; simp only [World.size_alloc] at k2; obtain ⟨c1, c2, f1, f2, z1⟩ := ratio_Over.blk2 k2; have HB := Aside0.mk (below_then (below_alloc (below_alloc (below_alloc (Below.refl w.heap.size w) _) _) _) (by simp; omega) hb3); clear Ha hb3 k2))
  exact bodyPost_ret (v := .tuple #[.agg #[.int .i64 0, .int .i64 0], .int .i64 2]) (by simp [results, Try.results25, go_sem, *]) rfl ⟨rfl, by
    repeat (refine below_set ?_ (show w.heap.size ≤ w.heap.size + 1 + 1 by omega))
    exact HB.out⟩
set_option maxHeartbeats 2000000 in
theorem ratio_Over.noB (k : Nat) (fv : Value) (a0 a1 b0 b1 : Int) (w : World)
    (ha : ratio_Right.f k a0 a1 = some true) (hb' : ratio_Right.f k b0 b1 = some false) :
    Calls Try.prog 25 #[.agg #[.int .i64 a0, .int .i64 a1], .agg #[.int .i64 b0, .int .i64 b1], fv] w fun e w' => e = .returned (.tuple #[.agg #[.int .i64 0, .int .i64 0], .int .i64 2]) ∧ Below w.heap.size w w' := by
  have Ha := Aside0.mk ha
  have Hb := Aside0.mk hb'
  clear ha hb'
  have hu23 := Try.underlying23
  go_enter Try.func25, Try.ntmps25
  go_wp2_with (first
    | (go_at_call 14; (with_reducible refine (ratio_Right.calls k a0 a1 true _ Ha.out).mono ?_); rintro e w3 ⟨rfl, hb3⟩; have k1 := blk_below (blk_alloc (blk_new (w.alloc (.cells #[.int .i64 a0, .int .i64 a1] 23)) (.cells #[.int .i64 b0, .int .i64 b1] 23)) _) hb3; have k2 := blk_below (blk_new ((w.alloc (.cells #[.int .i64 a0, .int .i64 a1] 23)).alloc (.cells #[.int .i64 b0, .int .i64 b1] 23)) (.cells #[.int .i64 0, .int .i64 0] 23)) hb3; simp only [World.size_alloc] at k1 k2; obtain ⟨c1, c2, f1, f2, z1⟩ := ratio_Over.blk2 k1; have K2 := Aside0.mk k2; have HB := Aside0.mk (below_then (below_alloc (below_alloc (below_alloc (Below.refl w.heap.size w) _) _) _) (by simp; omega) hb3); clear Ha hb3 k1 k2)
    | (go_at_call 14; (with_reducible refine (ratio_Right.calls k b0 b1 false _ Hb.out).mono ?_); rintro e w4 ⟨rfl, hb4⟩; have k2 := blk_below K2.out hb4; have HB := Aside0.mk (below_then HB.out HB.out.size hb4); clear Hb hb4; obtain ⟨c5, c6, f5, f6, z5⟩ := ratio_Over.blk2 k2; clear k2))
  exact bodyPost_ret (v := .tuple #[.agg #[.int .i64 0, .int .i64 0], .int .i64 2]) (by simp [results, Try.results25, go_sem, *]) rfl ⟨rfl, by
    repeat (refine below_set ?_ (show w.heap.size ≤ w.heap.size + 1 + 1 by omega))
    exact HB.out⟩
set_option maxHeartbeats 2000000 in
theorem ratio_Over.outer (k : Nat) (a0 a1 b0 b1 r1 r2 r3 : Int) (w : World)
    (hdo : ∀ W (g h : Nat), W.heap[g]? = some (.cells #[.int .i64 a0, .int .i64 a1] 23 (0, 0)) → W.heap[h]? = some (.cells #[.int .i64 b0, .int .i64 b1] 23 (0, 0)) → Calls Try.prog 25 #[.agg #[.int .i64 a0, .int .i64 a1], .agg #[.int .i64 b0, .int .i64 b1], .func (.func 26) #[] #[.pointer (some ⟨g, 0, none⟩), .pointer (some ⟨h, 0, none⟩)]] W fun e w' => e = .returned (.tuple #[.agg #[.int .i64 r1, .int .i64 r2], .int .i64 r3]) ∧ Below W.heap.size W w') :
    Calls Try.prog 9 #[.agg #[.int .i64 a0, .int .i64 a1], .agg #[.int .i64 b0, .int .i64 b1]] w fun e w' => e = .returned (.tuple #[.agg #[.int .i64 r1, .int .i64 r2], .int .i64 r3]) ∧ Below w.heap.size w w' := by
  have Hd := Aside0.mk hdo
  clear hdo
  have hu23 := Try.underlying23
  have hmf : ∀ (fn : Fn) (first cap : Array Value) (w : World), (Instr.makeFunc fn first cap).run Try.prog w = .ok (.func fn first cap) w := fun _ _ _ _ => rfl
  have e1 := blk_alloc (blk_alloc (blk_new w (.cells #[.int .i64 a0, .int .i64 a1] 23)) (.cells #[.int .i64 b0, .int .i64 b1] 23)) (.cells #[.int .i64 0, .int .i64 0] 23)
  have e2 := blk_alloc (blk_new (w.alloc (.cells #[.int .i64 a0, .int .i64 a1] 23)) (.cells #[.int .i64 b0, .int .i64 b1] 23)) (.cells #[.int .i64 0, .int .i64 0] 23)
  simp only [World.size_alloc] at e1 e2
  have E1 := Aside0.mk e1
  have E2 := Aside0.mk e2
  clear e1 e2
  go_enter Try.func9, Try.ntmps9
  go_wp2_with (go_at_call 25; (with_reducible refine (Hd.out _ _ _ E1.out E2.out).mono ?_); rintro e w3 ⟨rfl, hb3⟩; have k2 := blk_below (blk_new ((w.alloc (.cells #[.int .i64 a0, .int .i64 a1] 23)).alloc (.cells #[.int .i64 b0, .int .i64 b1] 23)) (.cells #[.int .i64 0, .int .i64 0] 23)) hb3; simp only [World.size_alloc] at k2; have HB := Aside0.mk (below_then (below_alloc (below_alloc (below_alloc (Below.refl w.heap.size w) _) _) _) (by simp; omega) hb3); clear Hd E1 E2 hb3; obtain ⟨c5, c6, f5, f6, z5⟩ := ratio_Over.blk2 k2; clear k2)
  exact bodyPost_ret (v := .tuple #[.agg #[.int .i64 r1, .int .i64 r2], .int .i64 r3]) (by simp [results, Try.results9, go_sem, *]) rfl ⟨rfl, by
    repeat (refine below_set ?_ (show w.heap.size ≤ w.heap.size + 1 + 1 by omega))
    exact HB.out⟩
theorem ratio_Over.calls (k : Nat) (a0 a1 b0 b1 r1 r2 r3 : Int) (w : World) (h : ratio_Over.f k a0 a1 b0 b1 = some (r1, r2, r3)) :
    Calls Try.prog 9 #[.agg #[.int .i64 a0, .int .i64 a1], .agg #[.int .i64 b0, .int .i64 b1]] w fun e w' => e = .returned (.tuple #[.agg #[.int .i64 r1, .int .i64 r2], .int .i64 r3]) ∧ Below w.heap.size w w' := by
  unfold ratio_Over.f at h
  obtain ⟨t, ht, h⟩ := Option.bind_eq_some_iff.mp h
  cases t with
  | false =>
    have h' : some (0, 0, 2) = some (r1, r2, r3) := h
    simp only [Option.some.injEq, Prod.mk.injEq] at h'
    obtain ⟨rfl, rfl, rfl⟩ := h'
    exact ratio_Over.outer k a0 a1 b0 b1 0 0 2 w (fun W g h _ _ => ratio_Over.noA k _ a0 a1 b0 b1 W ht)
  | true =>
    obtain ⟨u, hu, h⟩ := Option.bind_eq_some_iff.mp (show _ = _ from h)
    cases u with
    | false =>
      have h' : some (0, 0, 2) = some (r1, r2, r3) := h
      simp only [Option.some.injEq, Prod.mk.injEq] at h'
      obtain ⟨rfl, rfl, rfl⟩ := h'
      exact ratio_Over.outer k a0 a1 b0 b1 0 0 2 w (fun W g h _ _ => ratio_Over.noB k _ a0 a1 b0 b1 W ht hu)
    | true =>
      exact ratio_Over.outer k a0 a1 b0 b1 r1 r2 r3 w (fun W g h' hg hh => ratio_Over.yes k g h' a0 a1 b0 b1 r1 r2 r3 W ht hu (fun W2 hb => ratio_Over.inner k g h' a0 a1 b0 b1 r1 r2 r3 W2 (blk_below hg hb) (blk_below hh hb) h))


/-! ### ratio_Minus: function 10 -/
theorem ratio_Minus.blk2 {w : World} {g : Nat} {a b : Value} {t : TypeId} (h : w.heap[g]? = some (.cells #[a, b] t (0, 0))) : w.cell? ⟨g, 0, none⟩ = some a ∧ w.cell? ⟨g, 1, none⟩ = some b ∧ w.frozen? ⟨g, 0, none⟩ = false ∧ w.frozen? ⟨g, 1, none⟩ = false ∧ g < w.heap.size :=
  ⟨(blk_cell h 0).trans rfl, (blk_cell h 1).trans rfl, blk_frozen h 0, blk_frozen h 1, blk_lt h⟩
def ratio_Minus.f (k : Nat) (a0 a1 b0 b1 : Int) : Option (Int × Int × Int) := (ratio_Right.f k a0 a1).bind fun t => (if t = true then ((ratio_Right.f k b0 b1).bind fun u => (if u = true then (ratio_Make.f k (wrap64 ((wrap64 (a0 * b1)) - (wrap64 (b0 * a1)))) (wrap64 (a1 * b1))) else (some (0, 0, 2)))) else (some (0, 0, 2)))
theorem ratio_Minus.mono : ∀ a0 a1 a2 a3 k, LeO (ratio_Minus.f k a0 a1 a2 a3) (ratio_Minus.f (k + 1) a0 a1 a2 a3) := by
  intro a0 a1 a2 a3 k
  unfold ratio_Minus.f
  repeat' first
      | (with_reducible exact ratio_Make.mono _ _ _)
      | (with_reducible exact ratio_Right.mono _ _ _)
      | (with_reducible exact LeO.refl _)
      | (with_reducible exact LeO.none _)
      | (with_reducible refine LeO.ite ?_ ?_)
      | (with_reducible refine LeO.bind ?_ (fun _ => ?_))
set_option maxHeartbeats 2000000 in
theorem ratio_Minus.inner (k : Nat) (g h : Nat) (a0 a1 b0 b1 r1 r2 r3 : Int) (w : World) (hg : w.heap[g]? = some (.cells #[.int .i64 a0, .int .i64 a1] 23 (0, 0))) (hh : w.heap[h]? = some (.cells #[.int .i64 b0, .int .i64 b1] 23 (0, 0)))
    (hf : ratio_Make.f k (wrap64 ((wrap64 (a0 * b1)) - (wrap64 (b0 * a1)))) (wrap64 (a1 * b1)) = some (r1, r2, r3)) :
    Calls Try.prog 27 #[.pointer (some ⟨g, 0, none⟩), .pointer (some ⟨h, 0, none⟩)] w fun e w' => e = .returned (.tuple #[.agg #[.int .i64 r1, .int .i64 r2], .int .i64 r3]) ∧ Below w.heap.size w w' := by
  obtain ⟨c0, c1, _, _, lg⟩ := ratio_Minus.blk2 hg
  obtain ⟨c2, c3, _, _, lh⟩ := ratio_Minus.blk2 hh
  have Hf := Aside0.mk hf
  clear hf hg hh
  have hu23 := Try.underlying23
  go_enter Try.func27, Try.ntmps27
  go_wp2_with (go_at_call 12; (with_reducible refine (ratio_Make.calls k _ _ r1 r2 r3 _ Hf.out).mono ?_); rintro e w3 ⟨rfl, hb⟩; have k2 := blk_below (blk_new w (.cells #[.int .i64 0, .int .i64 0] 23)) hb; have HB := Aside0.mk (below_then (below_alloc (Below.refl w.heap.size w) _) (by simp) hb); clear Hf hb; obtain ⟨c5, c6, f5, f6, z5⟩ := ratio_Minus.blk2 k2; clear k2)
  exact bodyPost_ret (v := .tuple #[.agg #[.int .i64 r1, .int .i64 r2], .int .i64 r3]) (by simp [results, Try.results27, go_sem, *]) rfl ⟨rfl, by
    repeat (refine below_set ?_ (Nat.le_refl _))
    exact HB.out⟩
set_option maxHeartbeats 2000000 in
theorem ratio_Minus.yes (k : Nat) (g h : Nat) (a0 a1 b0 b1 r1 r2 r3 : Int) (w : World)
    (ha : ratio_Right.f k a0 a1 = some true) (hb' : ratio_Right.f k b0 b1 = some true)
    (hdo : ∀ W, Below w.heap.size w W → Calls Try.prog 27 #[.pointer (some ⟨g, 0, none⟩), .pointer (some ⟨h, 0, none⟩)] W fun e w' => e = .returned (.tuple #[.agg #[.int .i64 r1, .int .i64 r2], .int .i64 r3]) ∧ Below W.heap.size W w') :
    Calls Try.prog 25 #[.agg #[.int .i64 a0, .int .i64 a1], .agg #[.int .i64 b0, .int .i64 b1], .func (.func 27) #[] #[.pointer (some ⟨g, 0, none⟩), .pointer (some ⟨h, 0, none⟩)]] w fun e w' => e = .returned (.tuple #[.agg #[.int .i64 r1, .int .i64 r2], .int .i64 r3]) ∧ Below w.heap.size w w' := by
  have Ha := Aside0.mk ha
  have Hb := Aside0.mk hb'
  have Hd := Aside0.mk hdo
  clear ha hb' hdo
  have hu23 := Try.underlying23
  go_enter Try.func25, Try.ntmps25
  go_wp2_with (first
    | (go_at_call 14; (with_reducible refine (ratio_Right.calls k a0 a1 true _ Ha.out).mono ?_); rintro e w3 ⟨rfl, hb3⟩; have k1 := blk_below (blk_alloc (blk_new (w.alloc (.cells #[.int .i64 a0, .int .i64 a1] 23)) (.cells #[.int .i64 b0, .int .i64 b1] 23)) _) hb3; have k2 := blk_below (blk_new ((w.alloc (.cells #[.int .i64 a0, .int .i64 a1] 23)).alloc (.cells #[.int .i64 b0, .int .i64 b1] 23)) (.cells #[.int .i64 0, .int .i64 0] 23)) hb3; simp only [World.size_alloc] at k1 k2; obtain ⟨c1, c2, f1, f2, z1⟩ := ratio_Minus.blk2 k1; have K2 := Aside0.mk k2; have HB := Aside0.mk (below_then (below_alloc (below_alloc (below_alloc (Below.refl w.heap.size w) _) _) _) (by simp; omega) hb3); clear Ha hb3 k1 k2)
    | (go_at_call 14; (with_reducible refine (ratio_Right.calls k b0 b1 true _ Hb.out).mono ?_); rintro e w4 ⟨rfl, hb4⟩; have K2 := Aside0.mk (blk_below K2.out hb4); have HB := Aside0.mk (below_then HB.out HB.out.size hb4); clear Hb hb4)
    | (go_at_call 27; (with_reducible refine (Hd.out _ HB.out).mono ?_); rintro e w5 ⟨rfl, hb5⟩; have k2 := blk_below K2.out hb5; have HB := Aside0.mk (below_then HB.out HB.out.size hb5); clear Hd hb5; obtain ⟨c5, c6, f5, f6, z5⟩ := ratio_Minus.blk2 k2; clear k2))
  exact bodyPost_ret (v := .tuple #[.agg #[.int .i64 r1, .int .i64 r2], .int .i64 r3]) (by simp [results, Try.results25, go_sem, *]) rfl ⟨rfl, by
    repeat (refine below_set ?_ (show w.heap.size ≤ w.heap.size + 1 + 1 by omega))
    exact HB.out⟩
set_option maxHeartbeats 2000000 in
theorem ratio_Minus.noA (k : Nat) (fv : Value) (a0 a1 b0 b1 : Int) (w : World)
    (ha : ratio_Right.f k a0 a1 = some false) :
    Calls Try.prog 25 #[.agg #[.int .i64 a0, .int .i64 a1], .agg #[.int .i64 b0, .int .i64 b1], fv] w fun e w' => e = .returned (.tuple #[.agg #[.int .i64 0, .int .i64 0], .int .i64 2]) ∧ Below w.heap.size w w' := by
  have Ha := Aside0.mk ha
  clear ha
  have hu23 := Try.underlying23
  go_enter Try.func25, Try.ntmps25
  go_wp2_with (first
    | (go_at_call 14; (with_reducible refine (ratio_Right.calls k a0 a1 false _ Ha.out).mono ?_); rintro e w3 ⟨rfl, hb3⟩; have k2 := blk_below (blk_new ((w.alloc (.cells #[.int .i64 a0, .int .i64 a1] 23)).alloc (.cells #[.int .i64 b0, .int .i64 b1] 23)) (.cells #[.int .i64 0, .int .i64 0] 23)) hb3; simp only [World.size_alloc] at k2; obtain ⟨c1, c2, f1, f2, z1⟩ := ratio_Minus.blk2 k2; have HB := Aside0.mk (below_then (below_alloc (below_alloc (below_alloc (Below.refl w.heap.size w) _) _) _) (by simp; omega) hb3); clear Ha hb3 k2))
  exact bodyPost_ret (v := .tuple #[.agg #[.int .i64 0, .int .i64 0], .int .i64 2]) (by simp [results, Try.results25, go_sem, *]) rfl ⟨rfl, by
    repeat (refine below_set ?_ (show w.heap.size ≤ w.heap.size + 1 + 1 by omega))
    exact HB.out⟩
set_option maxHeartbeats 2000000 in
theorem ratio_Minus.noB (k : Nat) (fv : Value) (a0 a1 b0 b1 : Int) (w : World)
    (ha : ratio_Right.f k a0 a1 = some true) (hb' : ratio_Right.f k b0 b1 = some false) :
    Calls Try.prog 25 #[.agg #[.int .i64 a0, .int .i64 a1], .agg #[.int .i64 b0, .int .i64 b1], fv] w fun e w' => e = .returned (.tuple #[.agg #[.int .i64 0, .int .i64 0], .int .i64 2]) ∧ Below w.heap.size w w' := by
  have Ha := Aside0.mk ha
  have Hb := Aside0.mk hb'
  clear ha hb'
  have hu23 := Try.underlying23
  go_enter Try.func25, Try.ntmps25
  go_wp2_with (first
    | (go_at_call 14; (with_reducible refine (ratio_Right.calls k a0 a1 true _ Ha.out).mono ?_); rintro e w3 ⟨rfl, hb3⟩; have k1 := blk_below (blk_alloc (blk_new (w.alloc (.cells #[.int .i64 a0, .int .i64 a1] 23)) (.cells #[.int .i64 b0, .int .i64 b1] 23)) _) hb3; have k2 := blk_below (blk_new ((w.alloc (.cells #[.int .i64 a0, .int .i64 a1] 23)).alloc (.cells #[.int .i64 b0, .int .i64 b1] 23)) (.cells #[.int .i64 0, .int .i64 0] 23)) hb3; simp only [World.size_alloc] at k1 k2; obtain ⟨c1, c2, f1, f2, z1⟩ := ratio_Minus.blk2 k1; have K2 := Aside0.mk k2; have HB := Aside0.mk (below_then (below_alloc (below_alloc (below_alloc (Below.refl w.heap.size w) _) _) _) (by simp; omega) hb3); clear Ha hb3 k1 k2)
    | (go_at_call 14; (with_reducible refine (ratio_Right.calls k b0 b1 false _ Hb.out).mono ?_); rintro e w4 ⟨rfl, hb4⟩; have k2 := blk_below K2.out hb4; have HB := Aside0.mk (below_then HB.out HB.out.size hb4); clear Hb hb4; obtain ⟨c5, c6, f5, f6, z5⟩ := ratio_Minus.blk2 k2; clear k2))
  exact bodyPost_ret (v := .tuple #[.agg #[.int .i64 0, .int .i64 0], .int .i64 2]) (by simp [results, Try.results25, go_sem, *]) rfl ⟨rfl, by
    repeat (refine below_set ?_ (show w.heap.size ≤ w.heap.size + 1 + 1 by omega))
    exact HB.out⟩
set_option maxHeartbeats 2000000 in
theorem ratio_Minus.outer (k : Nat) (a0 a1 b0 b1 r1 r2 r3 : Int) (w : World)
    (hdo : ∀ W (g h : Nat), W.heap[g]? = some (.cells #[.int .i64 a0, .int .i64 a1] 23 (0, 0)) → W.heap[h]? = some (.cells #[.int .i64 b0, .int .i64 b1] 23 (0, 0)) → Calls Try.prog 25 #[.agg #[.int .i64 a0, .int .i64 a1], .agg #[.int .i64 b0, .int .i64 b1], .func (.func 27) #[] #[.pointer (some ⟨g, 0, none⟩), .pointer (some ⟨h, 0, none⟩)]] W fun e w' => e = .returned (.tuple #[.agg #[.int .i64 r1, .int .i64 r2], .int .i64 r3]) ∧ Below W.heap.size W w') :
    Calls Try.prog 10 #[.agg #[.int .i64 a0, .int .i64 a1], .agg #[.int .i64 b0, .int .i64 b1]] w fun e w' => e = .returned (.tuple #[.agg #[.int .i64 r1, .int .i64 r2], .int .i64 r3]) ∧ Below w.heap.size w w' := by
  have Hd := Aside0.mk hdo
  clear hdo
  have hu23 := Try.underlying23
  have hmf : ∀ (fn : Fn) (first cap : Array Value) (w : World), (Instr.makeFunc fn first cap).run Try.prog w = .ok (.func fn first cap) w := fun _ _ _ _ => rfl
  have e1 := blk_alloc (blk_alloc (blk_new w (.cells #[.int .i64 a0, .int .i64 a1] 23)) (.cells #[.int .i64 b0, .int .i64 b1] 23)) (.cells #[.int .i64 0, .int .i64 0] 23)
  have e2 := blk_alloc (blk_new (w.alloc (.cells #[.int .i64 a0, .int .i64 a1] 23)) (.cells #[.int .i64 b0, .int .i64 b1] 23)) (.cells #[.int .i64 0, .int .i64 0] 23)
  simp only [World.size_alloc] at e1 e2
  have E1 := Aside0.mk e1
  have E2 := Aside0.mk e2
  clear e1 e2
  go_enter Try.func10, Try.ntmps10
  go_wp2_with (go_at_call 25; (with_reducible refine (Hd.out _ _ _ E1.out E2.out).mono ?_); rintro e w3 ⟨rfl, hb3⟩; have k2 := blk_below (blk_new ((w.alloc (.cells #[.int .i64 a0, .int .i64 a1] 23)).alloc (.cells #[.int .i64 b0, .int .i64 b1] 23)) (.cells #[.int .i64 0, .int .i64 0] 23)) hb3; simp only [World.size_alloc] at k2; have HB := Aside0.mk (below_then (below_alloc (below_alloc (below_alloc (Below.refl w.heap.size w) _) _) _) (by simp; omega) hb3); clear Hd E1 E2 hb3; obtain ⟨c5, c6, f5, f6, z5⟩ := ratio_Minus.blk2 k2; clear k2)
  exact bodyPost_ret (v := .tuple #[.agg #[.int .i64 r1, .int .i64 r2], .int .i64 r3]) (by simp [results, Try.results10, go_sem, *]) rfl ⟨rfl, by
    repeat (refine below_set ?_ (show w.heap.size ≤ w.heap.size + 1 + 1 by omega))
    exact HB.out⟩
theorem ratio_Minus.calls (k : Nat) (a0 a1 b0 b1 r1 r2 r3 : Int) (w : World) (h : ratio_Minus.f k a0 a1 b0 b1 = some (r1, r2, r3)) :
    Calls Try.prog 10 #[.agg #[.int .i64 a0, .int .i64 a1], .agg #[.int .i64 b0, .int .i64 b1]] w fun e w' => e = .returned (.tuple #[.agg #[.int .i64 r1, .int .i64 r2], .int .i64 r3]) ∧ Below w.heap.size w w' := by
  unfold ratio_Minus.f at h
  obtain ⟨t, ht, h⟩ := Option.bind_eq_some_iff.mp h
  cases t with
  | false =>
    have h' : some (0, 0, 2) = some (r1, r2, r3) := h
    simp only [Option.some.injEq, Prod.mk.injEq] at h'
    obtain ⟨rfl, rfl, rfl⟩ := h'
    exact ratio_Minus.outer k a0 a1 b0 b1 0 0 2 w (fun W g h _ _ => ratio_Minus.noA k _ a0 a1 b0 b1 W ht)
  | true =>
    obtain ⟨u, hu, h⟩ := Option.bind_eq_some_iff.mp (show _ = _ from h)
    cases u with
    | false =>
      have h' : some (0, 0, 2) = some (r1, r2, r3) := h
      simp only [Option.some.injEq, Prod.mk.injEq] at h'
      obtain ⟨rfl, rfl, rfl⟩ := h'
      exact ratio_Minus.outer k a0 a1 b0 b1 0 0 2 w (fun W g h _ _ => ratio_Minus.noB k _ a0 a1 b0 b1 W ht hu)
    | true =>
      exact ratio_Minus.outer k a0 a1 b0 b1 r1 r2 r3 w (fun W g h' hg hh => ratio_Minus.yes k g h' a0 a1 b0 b1 r1 r2 r3 W ht hu (fun W2 hb => ratio_Minus.inner k g h' a0 a1 b0 b1 r1 r2 r3 W2 (blk_below hg hb) (blk_below hh hb) h))


-- NOT PRINTED: function 3 (hushlaw1_RatioField)

/-! ### ratio_Order: function 11 -/
def ratio_Order.j0 : Nat → Bool → Int → Int → Int → Int → Option (Int × Int)
  | 0, _, _, _, _, _ => none
  | k + 1, x14, x186000, x186001, x187000, x187001 => if x14 = true then (some (0, 2)) else (if (wrap64 ((wrap64 (x186000 * x187001)) - (wrap64 (x187000 * x186001)))) < 0 then (some ((-1), 0)) else (if (wrap64 ((wrap64 (x186000 * x187001)) - (wrap64 (x187000 * x186001)))) > 0 then (some (1, 0)) else (some (0, 0))))
def ratio_Order.f (k : Nat) (a0_0 : Int) (a0_1 : Int) (a1_0 : Int) (a1_1 : Int) : Option (Int × Int) := (ratio_Right.f k a0_0 a0_1).bind fun t187 => (if t187 = true then ((ratio_Right.f k a1_0 a1_1).bind fun t188 => (ratio_Order.j0 k (!t188) a0_0 a0_1 a1_0 a1_1)) else (ratio_Order.j0 k true a0_0 a0_1 a1_0 a1_1))
theorem ratio_Order.mono_l : ∀ k, (∀ y0 y1 y2 y3 y4, LeO (ratio_Order.j0 k y0 y1 y2 y3 y4) (ratio_Order.j0 (k + 1) y0 y1 y2 y3 y4))
  | 0 => fun _ _ _ _ _ r h => by simp [ratio_Order.j0] at h
  | k + 1 => by
    have ih0 := ratio_Order.mono_l k
    · intro y0 y1 y2 y3 y4
      unfold ratio_Order.j0
      repeat' first
      | (with_reducible exact ih0 _ _ _ _ _)
      | (with_reducible exact ratio_Right.mono _ _ _)
      | (with_reducible exact LeO.refl _)
      | (with_reducible exact LeO.none _)
      | (with_reducible refine LeO.ite ?_ ?_)
      | (with_reducible refine LeO.bind ?_ (fun _ => ?_))
      | exact ih0 _ _ _ _ _
      | exact ratio_Right.mono _ _ _
      | exact LeO.none _
      | refine LeO.ite ?_ ?_
      | refine LeO.bind ?_ (fun _ => ?_)
theorem ratio_Order.mono : ∀ a0 a1 a2 a3 k, LeO (ratio_Order.f k a0 a1 a2 a3) (ratio_Order.f (k + 1) a0 a1 a2 a3) := by
  intro a0 a1 a2 a3 k
  have ih0 := ratio_Order.mono_l k
  unfold ratio_Order.f
  repeat' first
      | (with_reducible exact ih0 _ _ _ _ _)
      | (with_reducible exact ratio_Right.mono _ _ _)
      | (with_reducible exact LeO.refl _)
      | (with_reducible exact LeO.none _)
      | (with_reducible refine LeO.ite ?_ ?_)
      | (with_reducible refine LeO.bind ?_ (fun _ => ?_))
      | exact ih0 _ _ _ _ _
      | exact ratio_Right.mono _ _ _
      | exact LeO.none _
      | refine LeO.ite ?_ ?_
      | refine LeO.bind ?_ (fun _ => ?_)
set_option maxHeartbeats 8000000 in
set_option maxRecDepth 100000 in
theorem ratio_Order.calls (k : Nat) (a0_0 : Int) (a0_1 : Int) (a1_0 : Int) (a1_1 : Int) (r1 : Int) (r2 : Int) (w : World) (h : ratio_Order.f k a0_0 a0_1 a1_0 a1_1 = some (r1, r2)) :
    Calls Try.prog 11 #[.agg #[.int .i64 a0_0, .int .i64 a0_1], .agg #[.int .i64 a1_0, .int .i64 a1_1]] w fun e w' => e = .returned (.tuple #[.int .i64 r1, .int .i64 r2]) ∧ Below w.heap.size w w' := by
  have hu23 := Try.underlying23
  have HB := Aside0.mk (Below.refl w.heap.size w)
  have H : ((ratio_Right.f k a0_0 a0_1).bind fun t187 => (if t187 = true then ((ratio_Right.f k a1_0 a1_1).bind fun t188 => (ratio_Order.j0 k (!t188) a0_0 a0_1 a1_0 a1_1)) else (ratio_Order.j0 k true a0_0 a0_1 a1_0 a1_1))) = some (r1, r2) := h
  clear h
  have HC3 := Aside0.mk H
  clear H
  go_enter Try.func11, Try.ntmps11
  go_upto_region 1 with (first | ((with_reducible refine gate_dst (N := 2) rfl ?_); refine box_event ?hg (N := 2) ?hd (cs := #[.int .i64 a0_0, .int .i64 a0_1]) (t := 23) ?hr ?_; (case hd => rfl); (case hg => rfl); (case hr => first | (go_simp; done) | (go_simp; rfl)); intro gb185 hg w4 hbox hb; have n0_ := Aside0.mk (below_step (by repeat (first | (with_reducible first | exact HB.out | apply below_alloc | apply pw_below_drewN | apply below_drew1) | exact HB.out)) hb); have n1_ := Aside0.mk (hbox); have n2_ := Aside0.mk ((by rw [hg]; exact (below_size (by repeat (first | (with_reducible first | exact HB.out | apply below_alloc | apply pw_below_drewN | apply below_drew1) | exact HB.out))) : w.heap.size ≤ gb185)); have n3_ := Aside0.mk ((by rw [hg]; exact (below_size (by repeat (first | (with_reducible first | exact HB.out | apply below_alloc | apply pw_below_drewN | apply below_drew1) | exact HB.out))) : w.heap.size ≤ gb185)); clear HB; have HB := n0_; have BK185 := n1_; have GW185 := n2_; have GE185 := n3_; clear n0_ n1_ n2_ n3_; clear hb hbox hg) | ((with_reducible refine gate_dst (N := 3) rfl ?_); refine box_event ?hg (N := 3) ?hd (cs := #[.int .i64 a1_0, .int .i64 a1_1]) (t := 23) ?hr ?_; (case hd => rfl); (case hg => rfl); (case hr => first | (go_simp; done) | (go_simp; rfl)); intro gb186 hg w5 hbox hb; have n0_ := Aside0.mk (blk_below (g := gb185) (o := .cells #[.int .i64 a0_0, .int .i64 a0_1] 23 (0, 0)) (by (with_reducible repeat (first | refine blk_drewN ?_ _ | refine blk_drew ?_ | refine blk_alloc ?_ _)); exact BK185.out) hb); have n1_ := Aside0.mk (below_step (by repeat (first | (with_reducible first | exact HB.out | apply below_alloc | apply pw_below_drewN | apply below_drew1 | refine below_set ?_ GE185.out) | exact HB.out)) hb); have n2_ := Aside0.mk (hbox); have n3_ := Aside0.mk ((by rw [hg]; exact (below_size (by repeat (first | (with_reducible first | exact HB.out | apply below_alloc | apply pw_below_drewN | apply below_drew1 | refine below_set ?_ GE185.out) | exact HB.out))) : w.heap.size ≤ gb186)); have n4_ := Aside0.mk ((by rw [hg]; exact (below_size (by repeat (first | (with_reducible first | exact HB.out | apply below_alloc | apply pw_below_drewN | apply below_drew1 | refine below_set ?_ GE185.out) | exact HB.out))) : w.heap.size ≤ gb186)); have n5_ := Aside0.mk ((by rw [hg]; exact Nat.ne_of_lt (blk_lt (g := gb185) (o := .cells #[.int .i64 a0_0, .int .i64 a0_1] 23 (0, 0)) (by (with_reducible repeat (first | refine blk_drewN ?_ _ | refine blk_drew ?_ | refine blk_alloc ?_ _)); exact BK185.out)) : gb185 ≠ gb186)); have n6_ := Aside0.mk ((by rw [hg]; exact Nat.ne_of_gt (blk_lt (g := gb185) (o := .cells #[.int .i64 a0_0, .int .i64 a0_1] 23 (0, 0)) (by (with_reducible repeat (first | refine blk_drewN ?_ _ | refine blk_drew ?_ | refine blk_alloc ?_ _)); exact BK185.out)) : gb186 ≠ gb185)); clear BK185; clear HB; have BK185 := n0_; have HB := n1_; have BK186 := n2_; have GW186 := n3_; have GE186 := n4_; have NB185_186 := n5_; have NB186_185 := n6_; clear n0_ n1_ n2_ n3_ n4_ n5_ n6_; clear hb hbox hg))
  (try simp only [Act.put, List.setIfInBounds_toArray, List.set_cons_zero, List.set_cons_succ])
  go_cut [14] (fun v14 wc => ∃ (kq : Nat) (x14_2 : Bool), v14 = .bool x14_2 ∧ Aside0 (ratio_Order.j0 kq x14_2 a0_0 a0_1 a1_0 a1_1 = some (r1, r2)) ∧ Aside0 (kq ≤ k) ∧ Aside0 (wc.heap[gb185]? = some (.cells #[.int .i64 a0_0, .int .i64 a0_1] 23 (0, 0))) ∧ Aside0 (wc.heap[gb186]? = some (.cells #[.int .i64 a1_0, .int .i64 a1_1] 23 (0, 0))) ∧ Aside0 (Below w.heap.size w wc))
  case first =>
    have H := HC3.out
    clear HC3
    replace H := Option.bind_eq_some_iff.mp H
    obtain ⟨t187, A60, H⟩ := H
    replace H : (if t187 = true then ((ratio_Right.f k a1_0 a1_1).bind fun t188 => (ratio_Order.j0 k (!t188) a0_0 a0_1 a1_0 a1_1)) else (ratio_Order.j0 k true a0_0 a0_1 a1_0 a1_1)) = some (r1, r2) := H
    have A6 := Aside0.mk A60
    clear A60
    by_cases c7 : t187 = true
    · subst c7
      have H1 : ((ratio_Right.f k a1_0 a1_1).bind fun t188 => (ratio_Order.j0 k (!t188) a0_0 a0_1 a1_0 a1_1)) = some (r1, r2) := by rw [if_pos rfl] at H; exact H
      clear H
      have H := H1
      clear H1
      replace H := Option.bind_eq_some_iff.mp H
      obtain ⟨t188, A80, H⟩ := H
      replace H : (ratio_Order.j0 k (!t188) a0_0 a0_1 a1_0 a1_1) = some (r1, r2) := H
      have A8 := Aside0.mk A80
      clear A80
      have H' := Aside0.mk H
      clear H
      have hnb9 := NB185_186.out
      have hnc9 := NB186_185.out
      have hcz10_0 : w5.cell? ⟨gb185, 0, none⟩ = some (.int .i64 a0_0) := (blk_cell BK185.out 0).trans rfl
      have hcz10_1 : w5.cell? ⟨gb185, 1, none⟩ = some (.int .i64 a0_1) := (blk_cell BK185.out 1).trans rfl
      have hfz10_0 := blk_frozen BK185.out 0
      have hfz10_1 := blk_frozen BK185.out 1
      go_wp2_with (first | ((with_reducible refine gate_callee (f := 14) rfl ?_); refine goesL_ (some 8) rfl rfl Try.func14 (by kernel_rfl) rfl #[.agg #[.int .i64 a0_0, .int .i64 a0_1]] rfl (by (try simp only [List.map_toArray, List.map_cons, List.map_nil]); first | done | rfl | (simp only [List.length_drop, List.length_take]; rfl)) ?_; (with_reducible refine (ratio_Right.calls k a0_0 a0_1 true _ A6.out).mono ?_); rintro e w11 ⟨rfl, hb⟩; refine ⟨_, rfl, ?_⟩; have n0_ := Aside0.mk (blk_below (g := gb185) (o := .cells #[.int .i64 a0_0, .int .i64 a0_1] 23 (0, 0)) (by (with_reducible repeat (first | refine blk_drewN ?_ _ | refine blk_drew ?_ | refine blk_alloc ?_ _)); exact BK185.out) hb); have n1_ := Aside0.mk (blk_below (g := gb186) (o := .cells #[.int .i64 a1_0, .int .i64 a1_1] 23 (0, 0)) (by (with_reducible repeat (first | refine blk_drewN ?_ _ | refine blk_drew ?_ | refine blk_alloc ?_ _)); exact BK186.out) hb); have n2_ := Aside0.mk (below_step (by repeat (first | (with_reducible first | exact HB.out | apply below_alloc | apply pw_below_drewN | apply below_drew1 | refine below_set ?_ GE185.out | refine below_set ?_ GE186.out) | exact HB.out)) hb); clear BK185; clear BK186; clear HB; have BK185 := n0_; have BK186 := n1_; have HB := n2_; clear n0_ n1_ n2_; (try clear hb); (try clear hb2); (try clear hk); (try clear hi); have hcz12_0 : w11.cell? ⟨gb186, 0, none⟩ = some (.int .i64 a1_0) := (blk_cell BK186.out 0).trans rfl; have hcz12_1 : w11.cell? ⟨gb186, 1, none⟩ = some (.int .i64 a1_1) := (blk_cell BK186.out 1).trans rfl; have hfz12_0 := blk_frozen BK186.out 0; have hfz12_1 := blk_frozen BK186.out 1) | (go_at_call 14; (with_reducible refine (ratio_Right.calls k a1_0 a1_1 t188 _ A8.out).mono ?_); rintro e w13 ⟨rfl, hb⟩; have n0_ := Aside0.mk (blk_below (g := gb185) (o := .cells #[.int .i64 a0_0, .int .i64 a0_1] 23 (0, 0)) (by (with_reducible repeat (first | refine blk_drewN ?_ _ | refine blk_drew ?_ | refine blk_alloc ?_ _)); exact BK185.out) hb); have n1_ := Aside0.mk (blk_below (g := gb186) (o := .cells #[.int .i64 a1_0, .int .i64 a1_1] 23 (0, 0)) (by (with_reducible repeat (first | refine blk_drewN ?_ _ | refine blk_drew ?_ | refine blk_alloc ?_ _)); exact BK186.out) hb); have n2_ := Aside0.mk (below_step (by repeat (first | (with_reducible first | exact HB.out | apply below_alloc | apply pw_below_drewN | apply below_drew1 | refine below_set ?_ GE185.out | refine below_set ?_ GE186.out) | exact HB.out)) hb); clear BK185; clear BK186; clear HB; have BK185 := n0_; have BK186 := n1_; have HB := n2_; clear n0_ n1_ n2_; (try clear hb); (try clear hb2); (try clear hk); (try clear hi)))
      go_meet
      case rel => exact ⟨_, (!t188), (by first | rfl | (simp; done) | (simp [*]; done)), H', ⟨by first | omega | exact Nat.le_refl _⟩, ⟨by (with_reducible repeat (first | refine blk_drewN ?_ _ | refine blk_drew ?_ | refine blk_alloc ?_ _)); exact BK185.out⟩, ⟨by (with_reducible repeat (first | refine blk_drewN ?_ _ | refine blk_drew ?_ | refine blk_alloc ?_ _)); exact BK186.out⟩, ⟨by repeat (first | (with_reducible first | exact HB.out | apply below_alloc | apply pw_below_drewN | apply below_drew1 | refine below_set ?_ GE185.out | refine below_set ?_ GE186.out) | exact HB.out)⟩⟩
    · replace c7 := Bool.eq_false_iff.mpr c7
      subst c7
      have H1 : (ratio_Order.j0 k true a0_0 a0_1 a1_0 a1_1) = some (r1, r2) := by rw [if_neg (show ¬ (false = true) by decide)] at H; exact H
      clear H
      have H := H1
      clear H1
      have H' := Aside0.mk H
      clear H
      have hnb14 := NB185_186.out
      have hnc14 := NB186_185.out
      have hcz15_0 : w5.cell? ⟨gb185, 0, none⟩ = some (.int .i64 a0_0) := (blk_cell BK185.out 0).trans rfl
      have hcz15_1 : w5.cell? ⟨gb185, 1, none⟩ = some (.int .i64 a0_1) := (blk_cell BK185.out 1).trans rfl
      have hfz15_0 := blk_frozen BK185.out 0
      have hfz15_1 := blk_frozen BK185.out 1
      go_wp2_with (first | ((with_reducible refine gate_callee (f := 14) rfl ?_); refine goesL_ (some 8) rfl rfl Try.func14 (by kernel_rfl) rfl #[.agg #[.int .i64 a0_0, .int .i64 a0_1]] rfl (by (try simp only [List.map_toArray, List.map_cons, List.map_nil]); first | done | rfl | (simp only [List.length_drop, List.length_take]; rfl)) ?_; (with_reducible refine (ratio_Right.calls k a0_0 a0_1 false _ A6.out).mono ?_); rintro e w16 ⟨rfl, hb⟩; refine ⟨_, rfl, ?_⟩; have n0_ := Aside0.mk (blk_below (g := gb185) (o := .cells #[.int .i64 a0_0, .int .i64 a0_1] 23 (0, 0)) (by (with_reducible repeat (first | refine blk_drewN ?_ _ | refine blk_drew ?_ | refine blk_alloc ?_ _)); exact BK185.out) hb); have n1_ := Aside0.mk (blk_below (g := gb186) (o := .cells #[.int .i64 a1_0, .int .i64 a1_1] 23 (0, 0)) (by (with_reducible repeat (first | refine blk_drewN ?_ _ | refine blk_drew ?_ | refine blk_alloc ?_ _)); exact BK186.out) hb); have n2_ := Aside0.mk (below_step (by repeat (first | (with_reducible first | exact HB.out | apply below_alloc | apply pw_below_drewN | apply below_drew1 | refine below_set ?_ GE185.out | refine below_set ?_ GE186.out) | exact HB.out)) hb); clear BK185; clear BK186; clear HB; have BK185 := n0_; have BK186 := n1_; have HB := n2_; clear n0_ n1_ n2_; (try clear hb); (try clear hb2); (try clear hk); (try clear hi)))
      go_meet
      case rel => exact ⟨_, (true), (by first | rfl | (simp; done) | (simp [*]; done)), H', ⟨by first | omega | exact Nat.le_refl _⟩, ⟨by (with_reducible repeat (first | refine blk_drewN ?_ _ | refine blk_drew ?_ | refine blk_alloc ?_ _)); exact BK185.out⟩, ⟨by (with_reducible repeat (first | refine blk_drewN ?_ _ | refine blk_drew ?_ | refine blk_alloc ?_ _)); exact BK186.out⟩, ⟨by repeat (first | (with_reducible first | exact HB.out | apply below_alloc | apply pw_below_drewN | apply below_drew1 | refine below_set ?_ GE185.out | refine below_set ?_ GE186.out) | exact HB.out)⟩⟩
  case rest =>
    clear HC3
    try clear c1
    try clear p2
    try clear c7
    try clear c9
    try clear c11
    try clear c14
    try clear hcz10_0
    try clear hcz10_1
    try clear hcz12_0
    try clear hcz12_1
    try clear hcz15_0
    try clear hcz15_1
    try clear hfz10_0
    try clear hfz10_1
    try clear hfz12_0
    try clear hfz12_1
    try clear hfz15_0
    try clear hfz15_1
    obtain ⟨kq, x14_2, rfl, HA, HJ2, BK185, BK186, HB⟩ := hcut
    cases kq with
    | zero => exact absurd HA.out (by simp [ratio_Order.j0])
    | succ kj2 =>
      have H := HA.out
      clear HA
      simp only [ratio_Order.j0] at H
      by_cases c17 : x14_2 = true
      · subst c17
        have H1 : (some (0, 2)) = some (r1, r2) := by rw [if_pos rfl] at H; exact H
        clear H
        have H := H1
        clear H1
        simp only [Option.some.injEq, Prod.mk.injEq] at H
        obtain ⟨rfl, rfl⟩ := H
        go_wp2
        go_ret2
        exact ⟨by first | rfl | (simp [errW_none, errW_some] <;> rfl) | (simp [*, errW_none, errW_some] <;> rfl), by repeat (first | (with_reducible first | exact HB.out | apply below_alloc | apply pw_below_drewN | apply below_drew1 | refine below_set ?_ GE185.out | refine below_set ?_ GE186.out) | exact HB.out)⟩
      · replace c17 := Bool.eq_false_iff.mpr c17
        subst c17
        have H1 : (if (wrap64 ((wrap64 (a0_0 * a1_1)) - (wrap64 (a1_0 * a0_1)))) < 0 then (some ((-1), 0)) else (if (wrap64 ((wrap64 (a0_0 * a1_1)) - (wrap64 (a1_0 * a0_1)))) > 0 then (some (1, 0)) else (some (0, 0)))) = some (r1, r2) := by rw [if_neg (show ¬ (false = true) by decide)] at H; exact H
        clear H
        have H := H1
        clear H1
        by_cases c18 : (wrap64 ((wrap64 (a0_0 * a1_1)) - (wrap64 (a1_0 * a0_1)))) < 0
        · rw [if_pos c18] at H
          have c18b0 : decide ((wrap64 ((wrap64 (a0_0 * a1_1)) - (wrap64 (a1_0 * a0_1)))) < 0) = true := decide_eq_true c18
          clear c18
          simp only [Option.some.injEq, Prod.mk.injEq] at H
          obtain ⟨rfl, rfl⟩ := H
          have hnb19 := NB185_186.out
          have hnc19 := NB186_185.out
          have hcz20_0 : wc.cell? ⟨gb185, 0, none⟩ = some (.int .i64 a0_0) := (blk_cell BK185.out 0).trans rfl
          have hcz20_1 : wc.cell? ⟨gb185, 1, none⟩ = some (.int .i64 a0_1) := (blk_cell BK185.out 1).trans rfl
          have hfz20_0 := blk_frozen BK185.out 0
          have hfz20_1 := blk_frozen BK185.out 1
          have hcz21_0 : wc.cell? ⟨gb186, 0, none⟩ = some (.int .i64 a1_0) := (blk_cell BK186.out 0).trans rfl
          have hcz21_1 : wc.cell? ⟨gb186, 1, none⟩ = some (.int .i64 a1_1) := (blk_cell BK186.out 1).trans rfl
          have hfz21_0 := blk_frozen BK186.out 0
          have hfz21_1 := blk_frozen BK186.out 1
          go_wp2
          go_ret2
          exact ⟨by first | rfl | (simp [errW_none, errW_some] <;> rfl) | (simp [*, errW_none, errW_some] <;> rfl), by repeat (first | (with_reducible first | exact HB.out | apply below_alloc | apply pw_below_drewN | apply below_drew1 | refine below_set ?_ GE185.out | refine below_set ?_ GE186.out) | exact HB.out)⟩
        · rw [if_neg c18] at H
          have c18b0 : decide ((wrap64 ((wrap64 (a0_0 * a1_1)) - (wrap64 (a1_0 * a0_1)))) < 0) = false := decide_eq_false c18
          clear c18
          by_cases c22 : (wrap64 ((wrap64 (a0_0 * a1_1)) - (wrap64 (a1_0 * a0_1)))) > 0
          · rw [if_pos c22] at H
            have c22b0 : decide (0 < (wrap64 ((wrap64 (a0_0 * a1_1)) - (wrap64 (a1_0 * a0_1))))) = true := decide_eq_true c22
            clear c22
            simp only [Option.some.injEq, Prod.mk.injEq] at H
            obtain ⟨rfl, rfl⟩ := H
            have hnb23 := NB185_186.out
            have hnc23 := NB186_185.out
            have hcz24_0 : wc.cell? ⟨gb185, 0, none⟩ = some (.int .i64 a0_0) := (blk_cell BK185.out 0).trans rfl
            have hcz24_1 : wc.cell? ⟨gb185, 1, none⟩ = some (.int .i64 a0_1) := (blk_cell BK185.out 1).trans rfl
            have hfz24_0 := blk_frozen BK185.out 0
            have hfz24_1 := blk_frozen BK185.out 1
            have hcz25_0 : wc.cell? ⟨gb186, 0, none⟩ = some (.int .i64 a1_0) := (blk_cell BK186.out 0).trans rfl
            have hcz25_1 : wc.cell? ⟨gb186, 1, none⟩ = some (.int .i64 a1_1) := (blk_cell BK186.out 1).trans rfl
            have hfz25_0 := blk_frozen BK186.out 0
            have hfz25_1 := blk_frozen BK186.out 1
            go_wp2
            go_ret2
            exact ⟨by first | rfl | (simp [errW_none, errW_some] <;> rfl) | (simp [*, errW_none, errW_some] <;> rfl), by repeat (first | (with_reducible first | exact HB.out | apply below_alloc | apply pw_below_drewN | apply below_drew1 | refine below_set ?_ GE185.out | refine below_set ?_ GE186.out) | exact HB.out)⟩
          · rw [if_neg c22] at H
            have c22b0 : decide (0 < (wrap64 ((wrap64 (a0_0 * a1_1)) - (wrap64 (a1_0 * a0_1))))) = false := decide_eq_false c22
            clear c22
            simp only [Option.some.injEq, Prod.mk.injEq] at H
            obtain ⟨rfl, rfl⟩ := H
            have hnb26 := NB185_186.out
            have hnc26 := NB186_185.out
            have hcz27_0 : wc.cell? ⟨gb185, 0, none⟩ = some (.int .i64 a0_0) := (blk_cell BK185.out 0).trans rfl
            have hcz27_1 : wc.cell? ⟨gb185, 1, none⟩ = some (.int .i64 a0_1) := (blk_cell BK185.out 1).trans rfl
            have hfz27_0 := blk_frozen BK185.out 0
            have hfz27_1 := blk_frozen BK185.out 1
            have hcz28_0 : wc.cell? ⟨gb186, 0, none⟩ = some (.int .i64 a1_0) := (blk_cell BK186.out 0).trans rfl
            have hcz28_1 : wc.cell? ⟨gb186, 1, none⟩ = some (.int .i64 a1_1) := (blk_cell BK186.out 1).trans rfl
            have hfz28_0 := blk_frozen BK186.out 0
            have hfz28_1 := blk_frozen BK186.out 1
            go_wp2
            go_ret2
            exact ⟨by first | rfl | (simp [errW_none, errW_some] <;> rfl) | (simp [*, errW_none, errW_some] <;> rfl), by repeat (first | (with_reducible first | exact HB.out | apply below_alloc | apply pw_below_drewN | apply below_drew1 | refine below_set ?_ GE185.out | refine below_set ?_ GE186.out) | exact HB.out)⟩

end Go.Proofs.Ytnlkacmkakgaoaa.PA

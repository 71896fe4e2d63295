
/- Functions of the program in Lean, by wip/xprint.py. Conditions: in each theorem. -/
import Derived.Test.YtjbgnlhgjgnclaaPBxs
import Derived.Test.YtjbgnlhgjgnclaaPBx0
import Derived.Test.YtjbgnlhgjgnclaaPBx2
import Derived.Test.YtjbgnlhgjgnclaaPBx18
namespace Go.Proofs.Ytjbgnlhgjgnclaa.PB
open Go.RowKit Go.Proofs.YtjbgnlhgjgnclaaW.PrintWords Go.Proofs.YtjbgnlhgjgnclaaW.PrintLast Go.Proofs.YtjbgnlhgjgnclaaW.PrintMore
attribute [local go_sem] max2_int min2_int max_two min_two max_three min_three max_four min_four   -- for this text's walks alone
set_option linter.unusedVariables false
set_option linter.unusedSimpArgs false

/-! ### ratio_Times: function 60 -/
theorem ratio_Times.blk2 {w : World} {g : Nat} {a b : Value} {t : TypeId} (h : w.heap[g]? = some (.cells #[a, b] t (0, 0))) : w.cell? ⟨g, 0, none⟩ = some a ∧ w.cell? ⟨g, 1, none⟩ = some b ∧ w.frozen? ⟨g, 0, none⟩ = false ∧ w.frozen? ⟨g, 1, none⟩ = false ∧ g < w.heap.size :=
 ⟨(blk_cell h 0).trans rfl, (blk_cell h 1).trans rfl, blk_frozen h 0, blk_frozen h 1, blk_lt h⟩
def ratio_Times.f (k : Nat) (a0 a1 b0 b1 : Int) : Option (Int × Int × Int) := (ratio_Right.f k a0 a1).bind fun t => (if t = true then ((ratio_Right.f k b0 b1).bind fun u => (if u = true then (ratio_Make.f k (wrap64 (a0 * b0)) (wrap64 (a1 * b1))) else (some (0, 0, 2)))) else (some (0, 0, 2)))
theorem ratio_Times.mono : ∀ a0 a1 a2 a3 k, LeO (ratio_Times.f k a0 a1 a2 a3) (ratio_Times.f (k + 1) a0 a1 a2 a3) := by
 intro a0 a1 a2 a3 k
 unfold ratio_Times.f
 repeat' first
   | (with_reducible exact ratio_Make.mono _ _ _)
   | (with_reducible exact ratio_Right.mono _ _ _)
   | (with_reducible exact LeO.refl _)
   | (with_reducible refine LeO.ite ?_ ?_)
   | (with_reducible refine LeO.bind ?_ (fun _ => ?_))
set_option maxHeartbeats 2000000 in
theorem ratio_Times.inner (k : Nat) (g h : Nat) (a0 a1 b0 b1 r1 r2 r3 : Int) (w : World) (hg : w.heap[g]? = some (.cells #[.int .i64 a0, .int .i64 a1] 23 (0, 0))) (hh : w.heap[h]? = some (.cells #[.int .i64 b0, .int .i64 b1] 23 (0, 0)))
  (hf : ratio_Make.f k (wrap64 (a0 * b0)) (wrap64 (a1 * b1)) = some (r1, r2, r3)) :
  Calls Try.prog 85 #[.pointer (some ⟨g, 0, none⟩), .pointer (some ⟨h, 0, none⟩)] w fun e w' => e = .returned (.tuple #[.agg #[.int .i64 r1, .int .i64 r2], .int .i64 r3]) ∧ Below w.heap.size w w' := by
 obtain ⟨c0, c1, _, _, lg⟩ := ratio_Times.blk2 hg
 obtain ⟨c2, c3, _, _, lh⟩ := ratio_Times.blk2 hh
 have Hf := Aside0.mk hf
 clear hf hg hh
 have hu23 := Try.underlying23
 go_enter Try.func85, Try.ntmps85
 go_wp2_with (go_at_call 86; (with_reducible refine (ratio_Make.calls k _ _ r1 r2 r3 _ Hf.out).mono ?_); rintro e w3 ⟨rfl, hb⟩; have k2 := blk_below (blk_new w (.cells #[.int .i64 0, .int .i64 0] 23)) hb; have HB := Aside0.mk (below_then (below_alloc (Below.refl w.heap.size w) _) (by simp) hb); clear Hf hb; obtain ⟨c5, c6, f5, f6, z5⟩ := ratio_Times.blk2 k2; clear k2)
 exact bodyPost_ret (v := .tuple #[.agg #[.int .i64 r1, .int .i64 r2], .int .i64 r3]) (by simp [results, Try.results85, go_sem, *]) rfl ⟨rfl, by
  repeat (refine below_set ?_ (Nat.le_refl _))
  exact HB.out⟩
set_option maxHeartbeats 2000000 in
theorem ratio_Times.yes (k : Nat) (g h : Nat) (a0 a1 b0 b1 r1 r2 r3 : Int) (w : World)
  (ha : ratio_Right.f k a0 a1 = some true) (hb' : ratio_Right.f k b0 b1 = some true)
  (hdo : ∀ W, Below w.heap.size w W → Calls Try.prog 85 #[.pointer (some ⟨g, 0, none⟩), .pointer (some ⟨h, 0, none⟩)] W fun e w' => e = .returned (.tuple #[.agg #[.int .i64 r1, .int .i64 r2], .int .i64 r3]) ∧ Below W.heap.size W w') :
  Calls Try.prog 84 #[.agg #[.int .i64 a0, .int .i64 a1], .agg #[.int .i64 b0, .int .i64 b1], .func (.func 85) #[] #[.pointer (some ⟨g, 0, none⟩), .pointer (some ⟨h, 0, none⟩)]] w fun e w' => e = .returned (.tuple #[.agg #[.int .i64 r1, .int .i64 r2], .int .i64 r3]) ∧ Below w.heap.size w w' := by
 have Ha := Aside0.mk ha
 have Hb := Aside0.mk hb'
 have Hd := Aside0.mk hdo
 clear ha hb' hdo
 have hu23 := Try.underlying23
 go_enter Try.func84, Try.ntmps84
 go_wp2_with (first
  | (go_at_call 50; (with_reducible refine (ratio_Right.calls k a0 a1 true _ Ha.out).mono ?_); rintro e w3 ⟨rfl, hb3⟩; have k1 := blk_below (blk_alloc (blk_new (w.alloc (.cells #[.int .i64 a0, .int .i64 a1] 23)) (.cells #[.int .i64 b0, .int .i64 b1] 23)) _) hb3; have k2 := blk_below (blk_new ((w.alloc (.cells #[.int .i64 a0, .int .i64 a1] 23)).alloc (.cells #[.int .i64 b0, .int .i64 b1] 23)) (.cells #[.int .i64 0, .int .i64 0] 23)) hb3; simp only [World.size_alloc] at k1 k2; obtain ⟨c1, c2, f1, f2, z1⟩ := ratio_Times.blk2 k1; have K2 := Aside0.mk k2; have HB := Aside0.mk (below_then (below_alloc (below_alloc (below_alloc (Below.refl w.heap.size w) _) _) _) (by simp; omega) hb3); clear Ha hb3 k1 k2)
  | (go_at_call 50; (with_reducible refine (ratio_Right.calls k b0 b1 true _ Hb.out).mono ?_); rintro e w4 ⟨rfl, hb4⟩; have K2 := Aside0.mk (blk_below K2.out hb4); have HB := Aside0.mk (below_then HB.out HB.out.size hb4); clear Hb hb4)
  | (go_at_call 85; (with_reducible refine (Hd.out _ HB.out).mono ?_); rintro e w5 ⟨rfl, hb5⟩; have k2 := blk_below K2.out hb5; have HB := Aside0.mk (below_then HB.out HB.out.size hb5); clear Hd hb5; obtain ⟨c5, c6, f5, f6, z5⟩ := ratio_Times.blk2 k2; clear k2))
 exact bodyPost_ret (v := .tuple #[.agg #[.int .i64 r1, .int .i64 r2], .int .i64 r3]) (by simp [results, Try.results84, go_sem, *]) rfl ⟨rfl, by
  repeat (refine below_set ?_ (show w.heap.size ≤ w.heap.size + 1 + 1 by omega))
  exact HB.out⟩
set_option maxHeartbeats 2000000 in
theorem ratio_Times.noA (k : Nat) (fv : Value) (a0 a1 b0 b1 : Int) (w : World)
  (ha : ratio_Right.f k a0 a1 = some false) :
  Calls Try.prog 84 #[.agg #[.int .i64 a0, .int .i64 a1], .agg #[.int .i64 b0, .int .i64 b1], fv] w fun e w' => e = .returned (.tuple #[.agg #[.int .i64 0, .int .i64 0], .int .i64 2]) ∧ Below w.heap.size w w' := by
 have Ha := Aside0.mk ha
 clear ha
 have hu23 := Try.underlying23
 go_enter Try.func84, Try.ntmps84
 go_wp2_with ((go_at_call 50; (with_reducible refine (ratio_Right.calls k a0 a1 false _ Ha.out).mono ?_); rintro e w3 ⟨rfl, hb3⟩; have k2 := blk_below (blk_new ((w.alloc (.cells #[.int .i64 a0, .int .i64 a1] 23)).alloc (.cells #[.int .i64 b0, .int .i64 b1] 23)) (.cells #[.int .i64 0, .int .i64 0] 23)) hb3; simp only [World.size_alloc] at k2; obtain ⟨c1, c2, f1, f2, z1⟩ := ratio_Times.blk2 k2; have HB := Aside0.mk (below_then (below_alloc (below_alloc (below_alloc (Below.refl w.heap.size w) _) _) _) (by simp; omega) hb3); clear Ha hb3 k2))
 exact bodyPost_ret (v := .tuple #[.agg #[.int .i64 0, .int .i64 0], .int .i64 2]) (by simp [results, Try.results84, go_sem, *]) rfl ⟨rfl, by
  repeat (refine below_set ?_ (show w.heap.size ≤ w.heap.size + 1 + 1 by omega))
  exact HB.out⟩
set_option maxHeartbeats 2000000 in
theorem ratio_Times.noB (k : Nat) (fv : Value) (a0 a1 b0 b1 : Int) (w : World)
  (ha : ratio_Right.f k a0 a1 = some true) (hb' : ratio_Right.f k b0 b1 = some false) :
  Calls Try.prog 84 #[.agg #[.int .i64 a0, .int .i64 a1], .agg #[.int .i64 b0, .int .i64 b1], fv] w fun e w' => e = .returned (.tuple #[.agg #[.int .i64 0, .int .i64 0], .int .i64 2]) ∧ Below w.heap.size w w' := by
 have Ha := Aside0.mk ha
 have Hb := Aside0.mk hb'
 clear ha hb'
 have hu23 := Try.underlying23
 go_enter Try.func84, Try.ntmps84
 go_wp2_with (first
  | (go_at_call 50; (with_reducible refine (ratio_Right.calls k a0 a1 true _ Ha.out).mono ?_); rintro e w3 ⟨rfl, hb3⟩; have k1 := blk_below (blk_alloc (blk_new (w.alloc (.cells #[.int .i64 a0, .int .i64 a1] 23)) (.cells #[.int .i64 b0, .int .i64 b1] 23)) _) hb3; have k2 := blk_below (blk_new ((w.alloc (.cells #[.int .i64 a0, .int .i64 a1] 23)).alloc (.cells #[.int .i64 b0, .int .i64 b1] 23)) (.cells #[.int .i64 0, .int .i64 0] 23)) hb3; simp only [World.size_alloc] at k1 k2; obtain ⟨c1, c2, f1, f2, z1⟩ := ratio_Times.blk2 k1; have K2 := Aside0.mk k2; have HB := Aside0.mk (below_then (below_alloc (below_alloc (below_alloc (Below.refl w.heap.size w) _) _) _) (by simp; omega) hb3); clear Ha hb3 k1 k2)
  | (go_at_call 50; (with_reducible refine (ratio_Right.calls k b0 b1 false _ Hb.out).mono ?_); rintro e w4 ⟨rfl, hb4⟩; have k2 := blk_below K2.out hb4; have HB := Aside0.mk (below_then HB.out HB.out.size hb4); clear Hb hb4; obtain ⟨c5, c6, f5, f6, z5⟩ := ratio_Times.blk2 k2; clear k2))
 exact bodyPost_ret (v := .tuple #[.agg #[.int .i64 0, .int .i64 0], .int .i64 2]) (by simp [results, Try.results84, go_sem, *]) rfl ⟨rfl, by
  repeat (refine below_set ?_ (show w.heap.size ≤ w.heap.size + 1 + 1 by omega))
  exact HB.out⟩
set_option maxHeartbeats 2000000 in
theorem ratio_Times.outer (k : Nat) (a0 a1 b0 b1 r1 r2 r3 : Int) (w : World)
  (hdo : ∀ W (g h : Nat), W.heap[g]? = some (.cells #[.int .i64 a0, .int .i64 a1] 23 (0, 0)) → W.heap[h]? = some (.cells #[.int .i64 b0, .int .i64 b1] 23 (0, 0)) → Calls Try.prog 84 #[.agg #[.int .i64 a0, .int .i64 a1], .agg #[.int .i64 b0, .int .i64 b1], .func (.func 85) #[] #[.pointer (some ⟨g, 0, none⟩), .pointer (some ⟨h, 0, none⟩)]] W fun e w' => e = .returned (.tuple #[.agg #[.int .i64 r1, .int .i64 r2], .int .i64 r3]) ∧ Below W.heap.size W w') :
  Calls Try.prog 60 #[.agg #[.int .i64 a0, .int .i64 a1], .agg #[.int .i64 b0, .int .i64 b1]] w fun e w' => e = .returned (.tuple #[.agg #[.int .i64 r1, .int .i64 r2], .int .i64 r3]) ∧ Below w.heap.size w w' := by
 have Hd := Aside0.mk hdo
 clear hdo
 have hu23 := Try.underlying23
 have hmf : ∀ (fn : Fn) (first cap : Array Value) (w : World), (Instr.makeFunc fn first cap).run Try.prog w = .ok (.func fn first cap) w := fun _ _ _ _ => rfl
 have e1 := blk_alloc (blk_alloc (blk_new w (.cells #[.int .i64 a0, .int .i64 a1] 23)) (.cells #[.int .i64 b0, .int .i64 b1] 23)) (.cells #[.int .i64 0, .int .i64 0] 23)
 have e2 := blk_alloc (blk_new (w.alloc (.cells #[.int .i64 a0, .int .i64 a1] 23)) (.cells #[.int .i64 b0, .int .i64 b1] 23)) (.cells #[.int .i64 0, .int .i64 0] 23)
 simp only [World.size_alloc] at e1 e2
 have E1 := Aside0.mk e1
 have E2 := Aside0.mk e2
 clear e1 e2
 go_enter Try.func60, Try.ntmps60
 go_wp2_with (go_at_call 84; (with_reducible refine (Hd.out _ _ _ E1.out E2.out).mono ?_); rintro e w3 ⟨rfl, hb3⟩; have k2 := blk_below (blk_new ((w.alloc (.cells #[.int .i64 a0, .int .i64 a1] 23)).alloc (.cells #[.int .i64 b0, .int .i64 b1] 23)) (.cells #[.int .i64 0, .int .i64 0] 23)) hb3; simp only [World.size_alloc] at k2; have HB := Aside0.mk (below_then (below_alloc (below_alloc (below_alloc (Below.refl w.heap.size w) _) _) _) (by simp; omega) hb3); clear Hd E1 E2 hb3; obtain ⟨c5, c6, f5, f6, z5⟩ := ratio_Times.blk2 k2; clear k2)
 exact bodyPost_ret (v := .tuple #[.agg #[.int .i64 r1, .int .i64 r2], .int .i64 r3]) (by simp [results, Try.results60, go_sem, *]) rfl ⟨rfl, by
  repeat (refine below_set ?_ (show w.heap.size ≤ w.heap.size + 1 + 1 by omega))
  exact HB.out⟩
theorem ratio_Times.calls (k : Nat) (a0 a1 b0 b1 r1 r2 r3 : Int) (w : World) (h : ratio_Times.f k a0 a1 b0 b1 = some (r1, r2, r3)) :
  Calls Try.prog 60 #[.agg #[.int .i64 a0, .int .i64 a1], .agg #[.int .i64 b0, .int .i64 b1]] w fun e w' => e = .returned (.tuple #[.agg #[.int .i64 r1, .int .i64 r2], .int .i64 r3]) ∧ Below w.heap.size w w' := by
 unfold ratio_Times.f at h
 obtain ⟨t, ht, h⟩ := Option.bind_eq_some_iff.mp h
 cases t with
 | false =>
  have h' : some (0, 0, 2) = some (r1, r2, r3) := h
  simp only [Option.some.injEq, Prod.mk.injEq] at h'
  obtain ⟨rfl, rfl, rfl⟩ := h'
  exact ratio_Times.outer k a0 a1 b0 b1 0 0 2 w (fun W g h _ _ => ratio_Times.noA k _ a0 a1 b0 b1 W ht)
 | true =>
  obtain ⟨u, hu, h⟩ := Option.bind_eq_some_iff.mp (show _ = _ from h)
  cases u with
  | false =>
   have h' : some (0, 0, 2) = some (r1, r2, r3) := h
   simp only [Option.some.injEq, Prod.mk.injEq] at h'
   obtain ⟨rfl, rfl, rfl⟩ := h'
   exact ratio_Times.outer k a0 a1 b0 b1 0 0 2 w (fun W g h _ _ => ratio_Times.noB k _ a0 a1 b0 b1 W ht hu)
  | true =>
   exact ratio_Times.outer k a0 a1 b0 b1 r1 r2 r3 w (fun W g h' hg hh => ratio_Times.yes k g h' a0 a1 b0 b1 r1 r2 r3 W ht hu (fun W2 hb => ratio_Times.inner k g h' a0 a1 b0 b1 r1 r2 r3 W2 (blk_below hg hb) (blk_below hh hb) h))


/-! ### ratio_Power: function 41 -/
mutual
def ratio_Power.j0 : Nat → Int → Bool → Int → Int → Option (Int × Int × Int)
 | 0, _, _, _, _ => none
 | k + 1, x1, x17, x284000, x284001 => if x17 = true then (some (0, 0, 3)) else (ratio_Power.l0 k x1 0 x284000 x284001 1 1)
def ratio_Power.l0 : Nat → Int → Int → Int → Int → Int → Int → Option (Int × Int × Int)
 | 0, _, _, _, _, _, _ => none
 | k + 1, x20, x21, x284000, x284001, x287000, x287001 => if x21 < x20 then ((ratio_Times.f k x287000 x287001 x284000 x284001).bind fun bt287 => (if bt287.2.2 = 0 then (ratio_Power.l0 k x20 (wrap64 (x21 + 1)) x284000 x284001 bt287.1 bt287.2.1) else (some (0, 0, bt287.2.2)))) else (some (x287000, x287001, 0))
end
def ratio_Power.f (k : Nat) (a0_0 : Int) (a0_1 : Int) (a1 : Int) : Option (Int × Int × Int) := (ratio_Right.f k a0_0 a0_1).bind fun t285 => (if t285 = true then (if a1 < 0 then (ratio_Power.j0 k a1 true a0_0 a0_1) else (ratio_Power.j0 k a1 (decide (a1 > 4096)) a0_0 a0_1)) else (some (0, 0, 2)))
theorem ratio_Power.mono_l : ∀ k, (∀ y0 y1 y2 y3, LeO (ratio_Power.j0 k y0 y1 y2 y3) (ratio_Power.j0 (k + 1) y0 y1 y2 y3)) ∧ (∀ y0 y1 y2 y3 y4 y5, LeO (ratio_Power.l0 k y0 y1 y2 y3 y4 y5) (ratio_Power.l0 (k + 1) y0 y1 y2 y3 y4 y5))
 | 0 => ⟨fun _ _ _ _ r h => by simp [ratio_Power.j0] at h, fun _ _ _ _ _ _ r h => by simp [ratio_Power.l0] at h⟩
 | k + 1 => by
  obtain ⟨ih0, ih1⟩ := ratio_Power.mono_l k
  refine ⟨?_, ?_⟩
  ·
   intro y0 y1 y2 y3
   unfold ratio_Power.j0
   repeat' first
   | (with_reducible exact ih1 _ _ _ _ _ _)
   | (with_reducible exact LeO.refl _)
   | (with_reducible refine LeO.ite ?_ ?_)
  ·
   intro y0 y1 y2 y3 y4 y5
   unfold ratio_Power.l0
   repeat' first
   | (with_reducible exact ih1 _ _ _ _ _ _)
   | (with_reducible exact ratio_Times.mono _ _ _ _ _)
   | (with_reducible exact LeO.refl _)
   | (with_reducible refine LeO.ite ?_ ?_)
   | (with_reducible refine LeO.bind ?_ (fun _ => ?_))
theorem ratio_Power.mono : ∀ a0 a1 a2 k, LeO (ratio_Power.f k a0 a1 a2) (ratio_Power.f (k + 1) a0 a1 a2) := by
 intro a0 a1 a2 k
 obtain ⟨ih0, ih1⟩ := ratio_Power.mono_l k
 unfold ratio_Power.f
 repeat' first
   | (with_reducible exact ih0 _ _ _ _)
   | (with_reducible exact ratio_Right.mono _ _ _)
   | (with_reducible exact LeO.refl _)
   | (with_reducible refine LeO.ite ?_ ?_)
   | (with_reducible refine LeO.bind ?_ (fun _ => ?_))
set_option maxHeartbeats 8000000 in
set_option maxRecDepth 100000 in
theorem ratio_Power.calls (k : Nat) (a0_0 : Int) (a0_1 : Int) (a1 : Int) (r1 : Int) (r2 : Int) (r3 : Int) (w : World) (h : ratio_Power.f k a0_0 a0_1 a1 = some (r1, r2, r3)) :
  Calls Try.prog 41 #[.agg #[.int .i64 a0_0, .int .i64 a0_1], .int .i64 a1] w fun e w' => e = .returned (.tuple #[.agg #[.int .i64 r1, .int .i64 r2], .int .i64 r3]) ∧ Below w.heap.size w w' := by
 have hu23 := Try.underlying23
 have HB := Aside0.mk (Below.refl w.heap.size w)
 have H : ((ratio_Right.f k a0_0 a0_1).bind fun t285 => (if t285 = true then (if a1 < 0 then (ratio_Power.j0 k a1 true a0_0 a0_1) else (ratio_Power.j0 k a1 (decide (a1 > 4096)) a0_0 a0_1)) else (some (0, 0, 2)))) = some (r1, r2, r3) := h
 clear h
 obtain ⟨t285, A3, H⟩ := bnd_ H
 by_cases c4 : t285 = true
 ·
  subst c4
  rw [if_pos rfl] at H
  have HC5 := Aside0.mk H
  clear H
  go_enter Try.func41, Try.ntmps41
  go_upto_region 3 with (first | ((with_reducible refine gate_dst (N := 2) rfl ?_); refine box_event ?hg (N := 2) ?hd (cs := #[.int .i64 a0_0, .int .i64 a0_1]) (t := 23) ?hr ?_; (case hd | hg => rfl); (case hr => go_simp; done); intro gb283 hg w6 hbox hb; have BK283 := Aside0.mk (hbox); have GW283 := gw_ HB.out hg; have GE283 := gw_ HB.out hg; replace HB := Aside0.mk (below_step HB.out hb); clear hb hbox hg) | ((with_reducible refine gate_dst (N := 4) rfl ?_); refine box_event ?hg (N := 4) ?hd (cs := #[.int .i64 0, .int .i64 0]) (t := 23) ?hr ?_; (case hd | hg => rfl); (case hr => go_simp; done); intro gb284 hg w7 hbox hb; have BK284 := Aside0.mk (hbox); have GW284 := gw_ HB.out hg; have GE284 := gw_ HB.out hg; replace HB := Aside0.mk (below_step HB.out hb); have NB283_284 := Aside0.mk ((by rw [hg]; exact Nat.ne_of_lt (blk_lt (g := gb283) (o := .cells #[.int .i64 a0_0, .int .i64 a0_1] 23 (0, 0)) (by (with_reducible repeat (first | refine blk_drewN ?_ _ | refine blk_drew ?_ | refine blk_alloc ?_ _)); exact BK283.out)) : gb283 ≠ gb284)); have NB284_283 := Aside0.mk ((by rw [hg]; exact Nat.ne_of_gt (blk_lt (g := gb283) (o := .cells #[.int .i64 a0_0, .int .i64 a0_1] 23 (0, 0)) (by (with_reducible repeat (first | refine blk_drewN ?_ _ | refine blk_drew ?_ | refine blk_alloc ?_ _)); exact BK283.out)) : gb284 ≠ gb283)); replace BK283 := Aside0.mk (blk_below (g := gb283) (o := .cells #[.int .i64 a0_0, .int .i64 a0_1] 23 (0, 0)) (by (with_reducible repeat (first | refine blk_drewN ?_ _ | refine blk_drew ?_ | refine blk_alloc ?_ _)); exact BK283.out) hb); clear hb hbox hg; have hnb8 := NB283_284.out; have hnc8 := NB284_283.out; have hcz9_0 := cz0_ BK283; have hcz9_1 := cz1_ BK283; have hfz9_0 := blk_frozen BK283.out 0; have hfz9_1 := blk_frozen BK283.out 1) | ((with_reducible refine gate_callee (f := 50) rfl ?_); refine goesL_ (some 9) rfl rfl Try.func50 (by kernel_rfl) rfl #[.agg #[.int .i64 a0_0, .int .i64 a0_1]] rfl (by (try simp only [List.map_toArray, List.map_cons, List.map_nil]); rfl) ?_; (with_reducible refine (ratio_Right.calls k a0_0 a0_1 true _ A3.out).mono ?_); rintro e w10 ⟨rfl, hb⟩; refine ⟨_, rfl, ?_⟩; replace BK283 := Aside0.mk (blk_below (g := gb283) (o := .cells #[.int .i64 a0_0, .int .i64 a0_1] 23 (0, 0)) (by (with_reducible repeat (first | refine blk_drewN ?_ _ | refine blk_drew ?_ | refine blk_alloc ?_ _)); exact BK283.out) hb); replace BK284 := Aside0.mk (blk_below (g := gb284) (o := .cells #[.int .i64 0, .int .i64 0] 23 (0, 0)) (by (with_reducible repeat (first | refine blk_drewN ?_ _ | refine blk_drew ?_ | refine blk_alloc ?_ _)); exact BK284.out) hb); replace HB := Aside0.mk (below_step HB.out hb); (try clear hb)))
  go_cut [17] (fun v17 wc => ∃ (kq : Nat) (x17_4 : Bool), v17 = .bool x17_4 ∧ Aside0 (ratio_Power.j0 kq a1 x17_4 a0_0 a0_1 = some (r1, r2, r3)) ∧ Aside0 (kq ≤ k) ∧ Aside0 (wc.heap[gb283]? = some (.cells #[.int .i64 a0_0, .int .i64 a0_1] 23 (0, 0))) ∧ Aside0 (wc.heap[gb284]? = some (.cells #[.int .i64 0, .int .i64 0] 23 (0, 0))) ∧ Aside0 (Below w.heap.size w wc))
  case first =>
   have H := HC5.out
   clear HC5
   by_cases c11 : a1 < 0
   ·
    rw [if_pos c11] at H
    have c11b0 : decide (a1 < 0) = true := decide_eq_true c11
    clear c11
    have H' := Aside0.mk H
    clear H
    go_wp2
    go_meet
    case rel => exact ⟨_, (true), rfl, H', ⟨by omega⟩, ⟨by (with_reducible repeat (first | refine blk_drewN ?_ _ | refine blk_drew ?_ | refine blk_alloc ?_ _)); exact BK283.out⟩, ⟨by (with_reducible repeat (first | refine blk_drewN ?_ _ | refine blk_drew ?_ | refine blk_alloc ?_ _)); exact BK284.out⟩, ⟨HB.out⟩⟩
   ·
    rw [if_neg c11] at H
    have c11b0 : decide (a1 < 0) = false := decide_eq_false c11
    clear c11
    have H' := Aside0.mk H
    clear H
    go_wp2
    go_meet
    case rel => exact ⟨_, (decide (a1 > 4096)), rfl, H', ⟨by omega⟩, ⟨by (with_reducible repeat (first | refine blk_drewN ?_ _ | refine blk_drew ?_ | refine blk_alloc ?_ _)); exact BK283.out⟩, ⟨by (with_reducible repeat (first | refine blk_drewN ?_ _ | refine blk_drew ?_ | refine blk_alloc ?_ _)); exact BK284.out⟩, ⟨HB.out⟩⟩
  case rest =>
   clear HC5
   try clear hcz9_0
   try clear hcz9_1
   try clear hfz9_0
   try clear hfz9_1
   obtain ⟨kq, x17_4, rfl, HA, HJ4, BK283, BK284, HB⟩ := hcut
   cases kq with
   | zero => exact absurd HA.out (by simp [ratio_Power.j0])
   | succ kj4 =>
    have H := HA.out
    clear HA
    simp only [ratio_Power.j0] at H
    by_cases c12 : x17_4 = true
    ·
     subst c12
     rw [if_pos rfl] at H
     simp only [Option.some.injEq, Prod.mk.injEq] at H
     obtain ⟨rfl, rfl, rfl⟩ := H
     have hnb13 := NB284_283.out
     have hnc13 := NB283_284.out
     have hcz14_0 := cz0_ BK284
     have hcz14_1 := cz1_ BK284
     have hfz14_0 := blk_frozen BK284.out 0
     have hfz14_1 := blk_frozen BK284.out 1
     go_wp2
     refine bodyPost_ret (results_ct rfl _ _ gb284 23 #[.int .i64 0, .int .i64 0] (0, 0) _ rfl (by (with_reducible repeat (first | refine blk_drewN ?_ _ | refine blk_drew ?_ | refine blk_alloc ?_ _)); refine blk_put (cs := #[.int .i64 0, .int .i64 0]) ?_ 1 _ rfl; (with_reducible repeat (first | refine blk_drewN ?_ _ | refine blk_drew ?_ | refine blk_alloc ?_ _)); refine blk_put (cs := #[.int .i64 0, .int .i64 0]) ?_ 0 _ rfl; (with_reducible repeat (first | refine blk_drewN ?_ _ | refine blk_drew ?_ | refine blk_alloc ?_ _)); exact BK284.out) Try.underlying23 rfl (by kernel_rfl)) rfl ?_
     exact ⟨rfl, by repeat (with_reducible first | exact HB.out | refine below_set ?_ GE284.out)⟩
    ·
     replace c12 := Bool.eq_false_iff.mpr c12
     subst c12
     rw [if_neg (show ¬ (false = true) by decide)] at H
     have H' := Aside0.mk H
     clear H
     go_wp2_with (((with_reducible refine gate_dst (N := 6) rfl ?_); refine box_event ?hg (N := 6) ?hd (cs := #[.int .i64 0, .int .i64 0]) (t := 23) ?hr ?_; (case hd | hg => rfl); (case hr => go_simp; done); intro gb286 hg w15 hbox hb; have BK286 := Aside0.mk (hbox); have GW286 := gw_ HB.out hg; have GE286 := gw_ HB.out hg; replace HB := Aside0.mk (below_step HB.out hb); have NB283_286 := Aside0.mk ((by rw [hg]; exact Nat.ne_of_lt (blk_lt (g := gb283) (o := .cells #[.int .i64 a0_0, .int .i64 a0_1] 23 (0, 0)) (by (with_reducible repeat (first | refine blk_drewN ?_ _ | refine blk_drew ?_ | refine blk_alloc ?_ _)); exact BK283.out)) : gb283 ≠ gb286)); have NB286_283 := Aside0.mk ((by rw [hg]; exact Nat.ne_of_gt (blk_lt (g := gb283) (o := .cells #[.int .i64 a0_0, .int .i64 a0_1] 23 (0, 0)) (by (with_reducible repeat (first | refine blk_drewN ?_ _ | refine blk_drew ?_ | refine blk_alloc ?_ _)); exact BK283.out)) : gb286 ≠ gb283)); replace BK283 := Aside0.mk (blk_below (g := gb283) (o := .cells #[.int .i64 a0_0, .int .i64 a0_1] 23 (0, 0)) (by (with_reducible repeat (first | refine blk_drewN ?_ _ | refine blk_drew ?_ | refine blk_alloc ?_ _)); exact BK283.out) hb); have NB284_286 := Aside0.mk ((by rw [hg]; exact Nat.ne_of_lt (blk_lt (g := gb284) (o := .cells #[.int .i64 0, .int .i64 0] 23 (0, 0)) (by (with_reducible repeat (first | refine blk_drewN ?_ _ | refine blk_drew ?_ | refine blk_alloc ?_ _)); exact BK284.out)) : gb284 ≠ gb286)); have NB286_284 := Aside0.mk ((by rw [hg]; exact Nat.ne_of_gt (blk_lt (g := gb284) (o := .cells #[.int .i64 0, .int .i64 0] 23 (0, 0)) (by (with_reducible repeat (first | refine blk_drewN ?_ _ | refine blk_drew ?_ | refine blk_alloc ?_ _)); exact BK284.out)) : gb286 ≠ gb284)); replace BK284 := Aside0.mk (blk_below (g := gb284) (o := .cells #[.int .i64 0, .int .i64 0] 23 (0, 0)) (by (with_reducible repeat (first | refine blk_drewN ?_ _ | refine blk_drew ?_ | refine blk_alloc ?_ _)); exact BK284.out) hb); clear hb hbox hg; have hnb16 := NB286_283.out; have hnc16 := NB283_286.out; have hnb17 := NB286_284.out; have hnc17 := NB284_286.out; have hcz18_0 := cz0_ BK286; have hcz18_1 := cz1_ BK286; have hfz18_0 := blk_frozen BK286.out 0; have hfz18_1 := blk_frozen BK286.out 1))
     go_loopg [21] kj4 (fun kq v21 w' => ∃ (x21_2 : Int) (x285000_2 : Int) (x285001_2 : Int) (x287000_2 : Int) (x287001_2 : Int), v21 = .int .i64 x21_2 ∧ Aside0 (ratio_Power.l0 kq a1 x21_2 a0_0 a0_1 x287000_2 x287001_2 = some (r1, r2, r3)) ∧ Aside0 (kq ≤ kj4) ∧ Aside0 (w'.heap[gb283]? = some (.cells #[.int .i64 a0_0, .int .i64 a0_1] 23 (0, 0))) ∧ Aside0 (w'.heap[gb284]? = some (.cells #[.int .i64 x285000_2, .int .i64 x285001_2] 23 (0, 0))) ∧ Aside0 (w'.heap[gb286]? = some (.cells #[.int .i64 x287000_2, .int .i64 x287001_2] 23 (0, 0))) ∧ Aside0 (Below w.heap.size w w'))
     case atStart => exact ⟨(0), (0), (0), (1), (1), rfl, H', ⟨Nat.le_refl _⟩, ⟨by (with_reducible repeat (first | refine blk_drewN ?_ _ | refine blk_drew ?_ | refine blk_alloc ?_ _)); refine blk_far ?_ NB283_286.out _; (with_reducible repeat (first | refine blk_drewN ?_ _ | refine blk_drew ?_ | refine blk_alloc ?_ _)); refine blk_far ?_ NB283_286.out _; (with_reducible repeat (first | refine blk_drewN ?_ _ | refine blk_drew ?_ | refine blk_alloc ?_ _)); exact BK283.out⟩, ⟨by (with_reducible repeat (first | refine blk_drewN ?_ _ | refine blk_drew ?_ | refine blk_alloc ?_ _)); refine blk_far ?_ NB284_286.out _; (with_reducible repeat (first | refine blk_drewN ?_ _ | refine blk_drew ?_ | refine blk_alloc ?_ _)); refine blk_far ?_ NB284_286.out _; (with_reducible repeat (first | refine blk_drewN ?_ _ | refine blk_drew ?_ | refine blk_alloc ?_ _)); exact BK284.out⟩, ⟨by (with_reducible repeat (first | refine blk_drewN ?_ _ | refine blk_drew ?_ | refine blk_alloc ?_ _)); refine blk_put (cs := #[.int .i64 1, .int .i64 0]) ?_ 1 _ rfl; (with_reducible repeat (first | refine blk_drewN ?_ _ | refine blk_drew ?_ | refine blk_alloc ?_ _)); refine blk_put (cs := #[.int .i64 0, .int .i64 0]) ?_ 0 _ rfl; (with_reducible repeat (first | refine blk_drewN ?_ _ | refine blk_drew ?_ | refine blk_alloc ?_ _)); exact BK286.out⟩, ⟨by repeat (with_reducible first | exact HB.out | refine below_set ?_ GE286.out)⟩⟩
     case round =>
      clear H'
      try clear hcz18_0
      try clear hcz18_1
      try clear hfz18_0
      try clear hfz18_1
      obtain ⟨x21_2, x285000_2, x285001_2, x287000_2, x287001_2, rfl, HA, HK2, BK283, BK284, BK286, HB⟩ := hrel
      cases gk with
      | zero => exact absurd HA.out (by simp [ratio_Power.l0])
      | succ k2 =>
       have H := HA.out
       clear HA
       simp only [ratio_Power.l0] at H
       by_cases c19 : x21_2 < a1
       ·
        rw [if_pos c19] at H
        have c19b0 : decide (x21_2 < a1) = true := decide_eq_true c19
        clear c19
        obtain ⟨⟨t287, t288, t289⟩, A20, H⟩ := bnd_ H
        dsimp only at H
        by_cases c21 : t289 = 0
        ·
         rw [if_pos c21] at H
         have c21b0 : (t289 == 0) = true := beq_iff_eq.mpr c21
         have c21b1 : (t289 != 0) = false := bne_eq_false_iff_eq.mpr c21
         clear c21
         have H' := Aside0.mk H
         clear H
         have hnb22 := NB286_283.out
         have hnc22 := NB283_286.out
         have hnb23 := NB286_284.out
         have hnc23 := NB284_286.out
         have hcz24_0 := cz0_ BK286
         have hcz24_1 := cz1_ BK286
         have hfz24_0 := blk_frozen BK286.out 0
         have hfz24_1 := blk_frozen BK286.out 1
         have hnb25 := NB283_284.out
         have hnc25 := NB284_283.out
         have hcz26_0 := cz0_ BK283
         have hcz26_1 := cz1_ BK283
         have hfz26_0 := blk_frozen BK283.out 0
         have hfz26_1 := blk_frozen BK283.out 1
         go_wp2_with (((with_reducible refine gate_callee (f := 60) rfl ?_); refine goesL_ (some 26) rfl rfl Try.func60 (by kernel_rfl) rfl #[.agg #[.int .i64 x287000_2, .int .i64 x287001_2], .agg #[.int .i64 a0_0, .int .i64 a0_1]] rfl (by (try simp only [List.map_toArray, List.map_cons, List.map_nil]); rfl) ?_; (with_reducible refine (ratio_Times.calls k2 x287000_2 x287001_2 a0_0 a0_1 t287 t288 t289 _ A20.out).mono ?_); rintro e w27 ⟨rfl, hb⟩; refine ⟨_, rfl, ?_⟩; replace BK283 := Aside0.mk (blk_below (g := gb283) (o := .cells #[.int .i64 a0_0, .int .i64 a0_1] 23 (0, 0)) (by (with_reducible repeat (first | refine blk_drewN ?_ _ | refine blk_drew ?_ | refine blk_alloc ?_ _)); exact BK283.out) hb); replace BK284 := Aside0.mk (blk_below (g := gb284) (o := .cells #[.int .i64 x285000_2, .int .i64 x285001_2] 23 (0, 0)) (by (with_reducible repeat (first | refine blk_drewN ?_ _ | refine blk_drew ?_ | refine blk_alloc ?_ _)); exact BK284.out) hb); replace BK286 := Aside0.mk (blk_below (g := gb286) (o := .cells #[.int .i64 x287000_2, .int .i64 x287001_2] 23 (0, 0)) (by (with_reducible repeat (first | refine blk_drewN ?_ _ | refine blk_drew ?_ | refine blk_alloc ?_ _)); exact BK286.out) hb); replace HB := Aside0.mk (below_step HB.out hb); (try clear hb); have hcz28_0 := cz0_ BK286; have hcz28_1 := cz1_ BK286; have hfz28_0 := blk_frozen BK286.out 0; have hfz28_1 := blk_frozen BK286.out 1))
         go_roundg k2
         case measure => have := HJ4.out; have := HK2.out; omega
         case rel => exact ⟨(wrap64 (x21_2 + 1)), (x285000_2), (x285001_2), (t287), (t288), rfl, H', ⟨by have := HJ4.out; have := HK2.out; omega⟩, ⟨by (with_reducible repeat (first | refine blk_drewN ?_ _ | refine blk_drew ?_ | refine blk_alloc ?_ _)); refine blk_far ?_ NB283_286.out _; (with_reducible repeat (first | refine blk_drewN ?_ _ | refine blk_drew ?_ | refine blk_alloc ?_ _)); refine blk_far ?_ NB283_286.out _; (with_reducible repeat (first | refine blk_drewN ?_ _ | refine blk_drew ?_ | refine blk_alloc ?_ _)); exact BK283.out⟩, ⟨by (with_reducible repeat (first | refine blk_drewN ?_ _ | refine blk_drew ?_ | refine blk_alloc ?_ _)); refine blk_far ?_ NB284_286.out _; (with_reducible repeat (first | refine blk_drewN ?_ _ | refine blk_drew ?_ | refine blk_alloc ?_ _)); refine blk_far ?_ NB284_286.out _; (with_reducible repeat (first | refine blk_drewN ?_ _ | refine blk_drew ?_ | refine blk_alloc ?_ _)); exact BK284.out⟩, ⟨by (with_reducible repeat (first | refine blk_drewN ?_ _ | refine blk_drew ?_ | refine blk_alloc ?_ _)); refine blk_put (cs := #[.int .i64 t287, .int .i64 x287001_2]) ?_ 1 _ rfl; (with_reducible repeat (first | refine blk_drewN ?_ _ | refine blk_drew ?_ | refine blk_alloc ?_ _)); refine blk_put (cs := #[.int .i64 x287000_2, .int .i64 x287001_2]) ?_ 0 _ rfl; (with_reducible repeat (first | refine blk_drewN ?_ _ | refine blk_drew ?_ | refine blk_alloc ?_ _)); exact BK286.out⟩, ⟨by repeat (with_reducible first | exact HB.out | refine below_set ?_ GE286.out)⟩⟩
        ·
         rw [if_neg c21] at H
         have c21b0 : (t289 == 0) = false := beq_eq_false_iff_ne.mpr c21
         have c21b1 : (t289 != 0) = true := bne_iff_ne.mpr c21
         simp only [Option.some.injEq, Prod.mk.injEq] at H
         obtain ⟨rfl, rfl, rfl⟩ := H
         have hnb29 := NB286_283.out
         have hnc29 := NB283_286.out
         have hnb30 := NB286_284.out
         have hnc30 := NB284_286.out
         have hcz31_0 := cz0_ BK286
         have hcz31_1 := cz1_ BK286
         have hfz31_0 := blk_frozen BK286.out 0
         have hfz31_1 := blk_frozen BK286.out 1
         have hnb32 := NB283_284.out
         have hnc32 := NB284_283.out
         have hcz33_0 := cz0_ BK283
         have hcz33_1 := cz1_ BK283
         have hfz33_0 := blk_frozen BK283.out 0
         have hfz33_1 := blk_frozen BK283.out 1
         go_wp2_with (((with_reducible refine gate_callee (f := 60) rfl ?_); refine goesL_ (some 26) rfl rfl Try.func60 (by kernel_rfl) rfl #[.agg #[.int .i64 x287000_2, .int .i64 x287001_2], .agg #[.int .i64 a0_0, .int .i64 a0_1]] rfl (by (try simp only [List.map_toArray, List.map_cons, List.map_nil]); rfl) ?_; (with_reducible refine (ratio_Times.calls k2 x287000_2 x287001_2 a0_0 a0_1 t287 t288 t289 _ A20.out).mono ?_); rintro e w34 ⟨rfl, hb⟩; refine ⟨_, rfl, ?_⟩; replace BK283 := Aside0.mk (blk_below (g := gb283) (o := .cells #[.int .i64 a0_0, .int .i64 a0_1] 23 (0, 0)) (by (with_reducible repeat (first | refine blk_drewN ?_ _ | refine blk_drew ?_ | refine blk_alloc ?_ _)); exact BK283.out) hb); replace BK284 := Aside0.mk (blk_below (g := gb284) (o := .cells #[.int .i64 x285000_2, .int .i64 x285001_2] 23 (0, 0)) (by (with_reducible repeat (first | refine blk_drewN ?_ _ | refine blk_drew ?_ | refine blk_alloc ?_ _)); exact BK284.out) hb); replace BK286 := Aside0.mk (blk_below (g := gb286) (o := .cells #[.int .i64 x287000_2, .int .i64 x287001_2] 23 (0, 0)) (by (with_reducible repeat (first | refine blk_drewN ?_ _ | refine blk_drew ?_ | refine blk_alloc ?_ _)); exact BK286.out) hb); replace HB := Aside0.mk (below_step HB.out hb); (try clear hb); have hcz35_0 := cz0_ BK286; have hcz35_1 := cz1_ BK286; have hfz35_0 := blk_frozen BK286.out 0; have hfz35_1 := blk_frozen BK286.out 1; have hcz36_0 := cz0_ BK284; have hcz36_1 := cz1_ BK284; have hfz36_0 := blk_frozen BK284.out 0; have hfz36_1 := blk_frozen BK284.out 1))
         refine bodyPost_ret (results_ct rfl _ _ gb284 23 #[.int .i64 0, .int .i64 0] (0, 0) _ rfl (by (with_reducible repeat (first | refine blk_drewN ?_ _ | refine blk_drew ?_ | refine blk_alloc ?_ _)); refine blk_put (cs := #[.int .i64 0, .int .i64 x285001_2]) ?_ 1 _ rfl; (with_reducible repeat (first | refine blk_drewN ?_ _ | refine blk_drew ?_ | refine blk_alloc ?_ _)); refine blk_put (cs := #[.int .i64 x285000_2, .int .i64 x285001_2]) ?_ 0 _ rfl; (with_reducible repeat (first | refine blk_drewN ?_ _ | refine blk_drew ?_ | refine blk_alloc ?_ _)); refine blk_far ?_ NB284_286.out _; (with_reducible repeat (first | refine blk_drewN ?_ _ | refine blk_drew ?_ | refine blk_alloc ?_ _)); refine blk_far ?_ NB284_286.out _; (with_reducible repeat (first | refine blk_drewN ?_ _ | refine blk_drew ?_ | refine blk_alloc ?_ _)); exact BK284.out) Try.underlying23 rfl (by kernel_rfl)) rfl ?_
         exact ⟨rfl, by repeat (with_reducible first | exact HB.out | refine below_set ?_ GE284.out | refine below_set ?_ GE286.out)⟩
       ·
        rw [if_neg c19] at H
        have c19b0 : decide (x21_2 < a1) = false := decide_eq_false c19
        clear c19
        simp only [Option.some.injEq, Prod.mk.injEq] at H
        obtain ⟨rfl, rfl, rfl⟩ := H
        have hnb37 := NB286_283.out
        have hnc37 := NB283_286.out
        have hnb38 := NB286_284.out
        have hnc38 := NB284_286.out
        have hcz39_0 := cz0_ BK286
        have hcz39_1 := cz1_ BK286
        have hfz39_0 := blk_frozen BK286.out 0
        have hfz39_1 := blk_frozen BK286.out 1
        have hnb40 := NB284_283.out
        have hnc40 := NB283_284.out
        have hcz41_0 := cz0_ BK284
        have hcz41_1 := cz1_ BK284
        have hfz41_0 := blk_frozen BK284.out 0
        have hfz41_1 := blk_frozen BK284.out 1
        go_wp2
        refine bodyPost_ret (results_ct rfl _ _ gb284 23 #[.int .i64 x287000_2, .int .i64 x287001_2] (0, 0) _ rfl (by (with_reducible repeat (first | refine blk_drewN ?_ _ | refine blk_drew ?_ | refine blk_alloc ?_ _)); refine blk_put (cs := #[.int .i64 x287000_2, .int .i64 x285001_2]) ?_ 1 _ rfl; (with_reducible repeat (first | refine blk_drewN ?_ _ | refine blk_drew ?_ | refine blk_alloc ?_ _)); refine blk_put (cs := #[.int .i64 x285000_2, .int .i64 x285001_2]) ?_ 0 _ rfl; (with_reducible repeat (first | refine blk_drewN ?_ _ | refine blk_drew ?_ | refine blk_alloc ?_ _)); exact BK284.out) Try.underlying23 rfl (by kernel_rfl)) rfl ?_
        exact ⟨rfl, by repeat (with_reducible first | exact HB.out | refine below_set ?_ GE284.out)⟩
 ·
  replace c4 := Bool.eq_false_iff.mpr c4
  subst c4
  rw [if_neg (show ¬ (false = true) by decide)] at H
  simp only [Option.some.injEq, Prod.mk.injEq] at H
  obtain ⟨rfl, rfl, rfl⟩ := H
  go_enter Try.func41, Try.ntmps41
  go_wp2_with (first | ((with_reducible refine gate_dst (N := 2) rfl ?_); refine box_event ?hg (N := 2) ?hd (cs := #[.int .i64 a0_0, .int .i64 a0_1]) (t := 23) ?hr ?_; (case hd | hg => rfl); (case hr => go_simp; done); intro gb283 hg w42 hbox hb; have BK283 := Aside0.mk (hbox); have GW283 := gw_ HB.out hg; have GE283 := gw_ HB.out hg; replace HB := Aside0.mk (below_step HB.out hb); clear hb hbox hg) | ((with_reducible refine gate_dst (N := 4) rfl ?_); refine box_event ?hg (N := 4) ?hd (cs := #[.int .i64 0, .int .i64 0]) (t := 23) ?hr ?_; (case hd | hg => rfl); (case hr => go_simp; done); intro gb284 hg w43 hbox hb; have BK284 := Aside0.mk (hbox); have GW284 := gw_ HB.out hg; have GE284 := gw_ HB.out hg; replace HB := Aside0.mk (below_step HB.out hb); have NB283_284 := Aside0.mk ((by rw [hg]; exact Nat.ne_of_lt (blk_lt (g := gb283) (o := .cells #[.int .i64 a0_0, .int .i64 a0_1] 23 (0, 0)) (by (with_reducible repeat (first | refine blk_drewN ?_ _ | refine blk_drew ?_ | refine blk_alloc ?_ _)); exact BK283.out)) : gb283 ≠ gb284)); have NB284_283 := Aside0.mk ((by rw [hg]; exact Nat.ne_of_gt (blk_lt (g := gb283) (o := .cells #[.int .i64 a0_0, .int .i64 a0_1] 23 (0, 0)) (by (with_reducible repeat (first | refine blk_drewN ?_ _ | refine blk_drew ?_ | refine blk_alloc ?_ _)); exact BK283.out)) : gb284 ≠ gb283)); replace BK283 := Aside0.mk (blk_below (g := gb283) (o := .cells #[.int .i64 a0_0, .int .i64 a0_1] 23 (0, 0)) (by (with_reducible repeat (first | refine blk_drewN ?_ _ | refine blk_drew ?_ | refine blk_alloc ?_ _)); exact BK283.out) hb); clear hb hbox hg; have hnb44 := NB283_284.out; have hnc44 := NB284_283.out; have hcz45_0 := cz0_ BK283; have hcz45_1 := cz1_ BK283; have hfz45_0 := blk_frozen BK283.out 0; have hfz45_1 := blk_frozen BK283.out 1) | ((with_reducible refine gate_callee (f := 50) rfl ?_); refine goesL_ (some 9) rfl rfl Try.func50 (by kernel_rfl) rfl #[.agg #[.int .i64 a0_0, .int .i64 a0_1]] rfl (by (try simp only [List.map_toArray, List.map_cons, List.map_nil]); rfl) ?_; (with_reducible refine (ratio_Right.calls k a0_0 a0_1 false _ A3.out).mono ?_); rintro e w46 ⟨rfl, hb⟩; refine ⟨_, rfl, ?_⟩; replace BK283 := Aside0.mk (blk_below (g := gb283) (o := .cells #[.int .i64 a0_0, .int .i64 a0_1] 23 (0, 0)) (by (with_reducible repeat (first | refine blk_drewN ?_ _ | refine blk_drew ?_ | refine blk_alloc ?_ _)); exact BK283.out) hb); replace BK284 := Aside0.mk (blk_below (g := gb284) (o := .cells #[.int .i64 0, .int .i64 0] 23 (0, 0)) (by (with_reducible repeat (first | refine blk_drewN ?_ _ | refine blk_drew ?_ | refine blk_alloc ?_ _)); exact BK284.out) hb); replace HB := Aside0.mk (below_step HB.out hb); (try clear hb); have hcz47_0 := cz0_ BK284; have hcz47_1 := cz1_ BK284; have hfz47_0 := blk_frozen BK284.out 0; have hfz47_1 := blk_frozen BK284.out 1))
  refine bodyPost_ret (results_ct rfl _ _ gb284 23 #[.int .i64 0, .int .i64 0] (0, 0) _ rfl (by (with_reducible repeat (first | refine blk_drewN ?_ _ | refine blk_drew ?_ | refine blk_alloc ?_ _)); refine blk_put (cs := #[.int .i64 0, .int .i64 0]) ?_ 1 _ rfl; (with_reducible repeat (first | refine blk_drewN ?_ _ | refine blk_drew ?_ | refine blk_alloc ?_ _)); refine blk_put (cs := #[.int .i64 0, .int .i64 0]) ?_ 0 _ rfl; (with_reducible repeat (first | refine blk_drewN ?_ _ | refine blk_drew ?_ | refine blk_alloc ?_ _)); exact BK284.out) Try.underlying23 rfl (by kernel_rfl)) rfl ?_
  exact ⟨rfl, by repeat (with_reducible first | exact HB.out | refine below_set ?_ GE284.out)⟩

/-! ### noise_Lost: function 17 -/
def noise_Lost.f (k : Nat) (a0_0 : Int) (a0_1 : Int) (a1 : Int) : Option (Int × Int × Int) := (noise_loss.f k a0_0 a0_1).bind fun t292 => (if t292 = 0 then ((ratio_Power.f k a0_0 a0_1 a1).bind fun bt293 => (some (bt293.1, bt293.2.1, bt293.2.2))) else (some (0, 0, t292)))
theorem noise_Lost.mono : ∀ a0 a1 a2 k, LeO (noise_Lost.f k a0 a1 a2) (noise_Lost.f (k + 1) a0 a1 a2) := by
 intro a0 a1 a2 k
 unfold noise_Lost.f
 repeat' first
   | (with_reducible exact noise_loss.mono _ _ _)
   | (with_reducible exact ratio_Power.mono _ _ _ _)
   | (with_reducible exact LeO.refl _)
   | (with_reducible refine LeO.ite ?_ ?_)
   | (with_reducible refine LeO.bind ?_ (fun _ => ?_))
set_option maxHeartbeats 8000000 in
set_option maxRecDepth 100000 in
theorem noise_Lost.calls (k : Nat) (a0_0 : Int) (a0_1 : Int) (a1 : Int) (r1 : Int) (r2 : Int) (r3 : Int) (w : World) (h : noise_Lost.f k a0_0 a0_1 a1 = some (r1, r2, r3)) :
  Calls Try.prog 17 #[.agg #[.int .i64 a0_0, .int .i64 a0_1], .int .i64 a1] w fun e w' => e = .returned (.tuple #[.agg #[.int .i64 r1, .int .i64 r2], .int .i64 r3]) ∧ Below w.heap.size w w' := by
 have hu23 := Try.underlying23
 have HB := Aside0.mk (Below.refl w.heap.size w)
 have H : ((noise_loss.f k a0_0 a0_1).bind fun t292 => (if t292 = 0 then ((ratio_Power.f k a0_0 a0_1 a1).bind fun bt293 => (some (bt293.1, bt293.2.1, bt293.2.2))) else (some (0, 0, t292)))) = some (r1, r2, r3) := h
 clear h
 obtain ⟨t292, A3, H⟩ := bnd_ H
 by_cases c4 : t292 = 0
 ·
  rw [if_pos c4] at H
  have c4b0 : (t292 == 0) = true := beq_iff_eq.mpr c4
  have c4b1 : (t292 != 0) = false := bne_eq_false_iff_eq.mpr c4
  clear c4
  obtain ⟨⟨t293, t294, t295⟩, A5, H⟩ := bnd_ H
  dsimp only at H
  simp only [Option.some.injEq, Prod.mk.injEq] at H
  obtain ⟨rfl, rfl, rfl⟩ := H
  go_enter Try.func17, Try.ntmps17
  go_wp2_with (first | ((with_reducible refine gate_dst (N := 2) rfl ?_); refine box_event ?hg (N := 2) ?hd (cs := #[.int .i64 a0_0, .int .i64 a0_1]) (t := 23) ?hr ?_; (case hd | hg => rfl); (case hr => go_simp; done); intro gb290 hg w6 hbox hb; have BK290 := Aside0.mk (hbox); have GW290 := gw_ HB.out hg; have GE290 := gw_ HB.out hg; replace HB := Aside0.mk (below_step HB.out hb); clear hb hbox hg) | ((with_reducible refine gate_dst (N := 4) rfl ?_); refine box_event ?hg (N := 4) ?hd (cs := #[.int .i64 0, .int .i64 0]) (t := 23) ?hr ?_; (case hd | hg => rfl); (case hr => go_simp; done); intro gb291 hg w7 hbox hb; have BK291 := Aside0.mk (hbox); have GW291 := gw_ HB.out hg; have GE291 := gw_ HB.out hg; replace HB := Aside0.mk (below_step HB.out hb); have NB290_291 := Aside0.mk ((by rw [hg]; exact Nat.ne_of_lt (blk_lt (g := gb290) (o := .cells #[.int .i64 a0_0, .int .i64 a0_1] 23 (0, 0)) (by (with_reducible repeat (first | refine blk_drewN ?_ _ | refine blk_drew ?_ | refine blk_alloc ?_ _)); exact BK290.out)) : gb290 ≠ gb291)); have NB291_290 := Aside0.mk ((by rw [hg]; exact Nat.ne_of_gt (blk_lt (g := gb290) (o := .cells #[.int .i64 a0_0, .int .i64 a0_1] 23 (0, 0)) (by (with_reducible repeat (first | refine blk_drewN ?_ _ | refine blk_drew ?_ | refine blk_alloc ?_ _)); exact BK290.out)) : gb291 ≠ gb290)); replace BK290 := Aside0.mk (blk_below (g := gb290) (o := .cells #[.int .i64 a0_0, .int .i64 a0_1] 23 (0, 0)) (by (with_reducible repeat (first | refine blk_drewN ?_ _ | refine blk_drew ?_ | refine blk_alloc ?_ _)); exact BK290.out) hb); clear hb hbox hg; have hnb8 := NB290_291.out; have hnc8 := NB291_290.out; have hcz9_0 := cz0_ BK290; have hcz9_1 := cz1_ BK290; have hfz9_0 := blk_frozen BK290.out 0; have hfz9_1 := blk_frozen BK290.out 1) | ((with_reducible refine gate_callee (f := 26) rfl ?_); refine goesL_ (some 8) rfl rfl Try.func26 (by kernel_rfl) rfl #[.agg #[.int .i64 a0_0, .int .i64 a0_1]] rfl (by (try simp only [List.map_toArray, List.map_cons, List.map_nil]); rfl) ?_; (with_reducible refine (noise_loss.calls k a0_0 a0_1 t292 _ A3.out).mono ?_); rintro e w10 ⟨rfl, hb⟩; refine ⟨_, rfl, ?_⟩; replace BK290 := Aside0.mk (blk_below (g := gb290) (o := .cells #[.int .i64 a0_0, .int .i64 a0_1] 23 (0, 0)) (by (with_reducible repeat (first | refine blk_drewN ?_ _ | refine blk_drew ?_ | refine blk_alloc ?_ _)); exact BK290.out) hb); replace BK291 := Aside0.mk (blk_below (g := gb291) (o := .cells #[.int .i64 0, .int .i64 0] 23 (0, 0)) (by (with_reducible repeat (first | refine blk_drewN ?_ _ | refine blk_drew ?_ | refine blk_alloc ?_ _)); exact BK291.out) hb); replace HB := Aside0.mk (below_step HB.out hb); (try clear hb); have hcz11_0 := cz0_ BK290; have hcz11_1 := cz1_ BK290; have hfz11_0 := blk_frozen BK290.out 0; have hfz11_1 := blk_frozen BK290.out 1) | ((with_reducible refine gate_callee (f := 41) rfl ?_); refine goesL_ (some 15) rfl rfl Try.func41 (by kernel_rfl) rfl #[.agg #[.int .i64 a0_0, .int .i64 a0_1], .int .i64 a1] rfl (by (try simp only [List.map_toArray, List.map_cons, List.map_nil]); rfl) ?_; (with_reducible refine (ratio_Power.calls k a0_0 a0_1 a1 t293 t294 t295 _ A5.out).mono ?_); rintro e w12 ⟨rfl, hb⟩; refine ⟨_, rfl, ?_⟩; replace BK290 := Aside0.mk (blk_below (g := gb290) (o := .cells #[.int .i64 a0_0, .int .i64 a0_1] 23 (0, 0)) (by (with_reducible repeat (first | refine blk_drewN ?_ _ | refine blk_drew ?_ | refine blk_alloc ?_ _)); exact BK290.out) hb); replace BK291 := Aside0.mk (blk_below (g := gb291) (o := .cells #[.int .i64 0, .int .i64 0] 23 (0, 0)) (by (with_reducible repeat (first | refine blk_drewN ?_ _ | refine blk_drew ?_ | refine blk_alloc ?_ _)); exact BK291.out) hb); replace HB := Aside0.mk (below_step HB.out hb); (try clear hb); have hcz13_0 := cz0_ BK291; have hcz13_1 := cz1_ BK291; have hfz13_0 := blk_frozen BK291.out 0; have hfz13_1 := blk_frozen BK291.out 1))
  refine bodyPost_ret (results_ct rfl _ _ gb291 23 #[.int .i64 t293, .int .i64 t294] (0, 0) _ rfl (by (with_reducible repeat (first | refine blk_drewN ?_ _ | refine blk_drew ?_ | refine blk_alloc ?_ _)); refine blk_put (cs := #[.int .i64 t293, .int .i64 0]) ?_ 1 _ rfl; (with_reducible repeat (first | refine blk_drewN ?_ _ | refine blk_drew ?_ | refine blk_alloc ?_ _)); refine blk_put (cs := #[.int .i64 0, .int .i64 0]) ?_ 0 _ rfl; (with_reducible repeat (first | refine blk_drewN ?_ _ | refine blk_drew ?_ | refine blk_alloc ?_ _)); exact BK291.out) Try.underlying23 rfl (by kernel_rfl)) rfl ?_
  exact ⟨rfl, by repeat (with_reducible first | exact HB.out | refine below_set ?_ GE291.out)⟩
 ·
  rw [if_neg c4] at H
  have c4b0 : (t292 == 0) = false := beq_eq_false_iff_ne.mpr c4
  have c4b1 : (t292 != 0) = true := bne_iff_ne.mpr c4
  simp only [Option.some.injEq, Prod.mk.injEq] at H
  obtain ⟨rfl, rfl, rfl⟩ := H
  go_enter Try.func17, Try.ntmps17
  go_wp2_with (first | ((with_reducible refine gate_dst (N := 2) rfl ?_); refine box_event ?hg (N := 2) ?hd (cs := #[.int .i64 a0_0, .int .i64 a0_1]) (t := 23) ?hr ?_; (case hd | hg => rfl); (case hr => go_simp; done); intro gb290 hg w14 hbox hb; have BK290 := Aside0.mk (hbox); have GW290 := gw_ HB.out hg; have GE290 := gw_ HB.out hg; replace HB := Aside0.mk (below_step HB.out hb); clear hb hbox hg) | ((with_reducible refine gate_dst (N := 4) rfl ?_); refine box_event ?hg (N := 4) ?hd (cs := #[.int .i64 0, .int .i64 0]) (t := 23) ?hr ?_; (case hd | hg => rfl); (case hr => go_simp; done); intro gb291 hg w15 hbox hb; have BK291 := Aside0.mk (hbox); have GW291 := gw_ HB.out hg; have GE291 := gw_ HB.out hg; replace HB := Aside0.mk (below_step HB.out hb); have NB290_291 := Aside0.mk ((by rw [hg]; exact Nat.ne_of_lt (blk_lt (g := gb290) (o := .cells #[.int .i64 a0_0, .int .i64 a0_1] 23 (0, 0)) (by (with_reducible repeat (first | refine blk_drewN ?_ _ | refine blk_drew ?_ | refine blk_alloc ?_ _)); exact BK290.out)) : gb290 ≠ gb291)); have NB291_290 := Aside0.mk ((by rw [hg]; exact Nat.ne_of_gt (blk_lt (g := gb290) (o := .cells #[.int .i64 a0_0, .int .i64 a0_1] 23 (0, 0)) (by (with_reducible repeat (first | refine blk_drewN ?_ _ | refine blk_drew ?_ | refine blk_alloc ?_ _)); exact BK290.out)) : gb291 ≠ gb290)); replace BK290 := Aside0.mk (blk_below (g := gb290) (o := .cells #[.int .i64 a0_0, .int .i64 a0_1] 23 (0, 0)) (by (with_reducible repeat (first | refine blk_drewN ?_ _ | refine blk_drew ?_ | refine blk_alloc ?_ _)); exact BK290.out) hb); clear hb hbox hg; have hnb16 := NB290_291.out; have hnc16 := NB291_290.out; have hcz17_0 := cz0_ BK290; have hcz17_1 := cz1_ BK290; have hfz17_0 := blk_frozen BK290.out 0; have hfz17_1 := blk_frozen BK290.out 1) | ((with_reducible refine gate_callee (f := 26) rfl ?_); refine goesL_ (some 8) rfl rfl Try.func26 (by kernel_rfl) rfl #[.agg #[.int .i64 a0_0, .int .i64 a0_1]] rfl (by (try simp only [List.map_toArray, List.map_cons, List.map_nil]); rfl) ?_; (with_reducible refine (noise_loss.calls k a0_0 a0_1 t292 _ A3.out).mono ?_); rintro e w18 ⟨rfl, hb⟩; refine ⟨_, rfl, ?_⟩; replace BK290 := Aside0.mk (blk_below (g := gb290) (o := .cells #[.int .i64 a0_0, .int .i64 a0_1] 23 (0, 0)) (by (with_reducible repeat (first | refine blk_drewN ?_ _ | refine blk_drew ?_ | refine blk_alloc ?_ _)); exact BK290.out) hb); replace BK291 := Aside0.mk (blk_below (g := gb291) (o := .cells #[.int .i64 0, .int .i64 0] 23 (0, 0)) (by (with_reducible repeat (first | refine blk_drewN ?_ _ | refine blk_drew ?_ | refine blk_alloc ?_ _)); exact BK291.out) hb); replace HB := Aside0.mk (below_step HB.out hb); (try clear hb); have hcz19_0 := cz0_ BK291; have hcz19_1 := cz1_ BK291; have hfz19_0 := blk_frozen BK291.out 0; have hfz19_1 := blk_frozen BK291.out 1))
  refine bodyPost_ret (results_ct rfl _ _ gb291 23 #[.int .i64 0, .int .i64 0] (0, 0) _ rfl (by (with_reducible repeat (first | refine blk_drewN ?_ _ | refine blk_drew ?_ | refine blk_alloc ?_ _)); refine blk_put (cs := #[.int .i64 0, .int .i64 0]) ?_ 1 _ rfl; (with_reducible repeat (first | refine blk_drewN ?_ _ | refine blk_drew ?_ | refine blk_alloc ?_ _)); refine blk_put (cs := #[.int .i64 0, .int .i64 0]) ?_ 0 _ rfl; (with_reducible repeat (first | refine blk_drewN ?_ _ | refine blk_drew ?_ | refine blk_alloc ?_ _)); exact BK291.out) Try.underlying23 rfl (by kernel_rfl)) rfl ?_
  exact ⟨rfl, by repeat (with_reducible first | exact HB.out | refine below_set ?_ GE291.out)⟩

end Go.Proofs.Ytjbgnlhgjgnclaa.PB

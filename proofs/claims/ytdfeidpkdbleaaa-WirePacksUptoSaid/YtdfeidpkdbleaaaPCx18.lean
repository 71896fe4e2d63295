/- Functions of the translated program as Lean functions, and what their calls come to: written by this session's own program (wip/xprint.py) over the kit's print. Conditions stand in each theorem. -/
import Derived.Test.YtdfeidpkdbleaaaPCx0
import Derived.Test.YtdfeidpkdbleaaaPCx17
namespace Go.Proofs.Ytdfeidpkdbleaaa.PC
open Go.RowKit Go.Proofs.YtdfeidpkdbleaaaW.PrintWords Go.Proofs.YtdfeidpkdbleaaaW.PrintLast Go.Proofs.YtdfeidpkdbleaaaW.PrintMore
attribute [local go_sem] max2_int min2_int max_two min_two max_three min_three max_four min_four   -- for this text's walks alone
set_option linter.unusedVariables false
set_option linter.unusedSimpArgs false

/-! ### hushref16_Unpack: function 15 -/
abbrev RunM := Int × ByteArray × Int × ByteArray × ByteArray × Int × Int × Int × Int × Int × List Int × Int × Int × Int
def hushref16_Unpack.no (e : Int) : RunM := (0, ⟨#[]⟩, 0, ⟨#[]⟩, ⟨#[]⟩, 0, 0, 0, 0, 0, [], 0, 0, e)
def hushref16_Unpack.fin (a : ByteArray) (x : Int) (m : RunM) : RunM := if x = (a.size : Int) then m else hushref16_Unpack.no 2
def hushref16_Unpack.l0 : Nat → ByteArray → Int → Int → List Int → Option (List Int × Int)
  | 0, _, _, _, _ => none
  | k + 1, x0, x1, x2, x3 => if x2 > 0 then (if x1 ≥ 0 then (hushref16_number.f k x0 x1).bind fun z => if x3.length < 17592186044416 then hushref16_Unpack.l0 k x0 z.2 (x2 - 1) (x3 ++ [z.1]) else none else some (x3, x1)) else some (x3, x1)
def hushref16_Unpack.f (k : Nat) (a0 : ByteArray) : Option RunM := if (a0.size : Int) > 65536 then some (hushref16_Unpack.no 4) else if (a0.size : Int) = 0 then some (hushref16_Unpack.no 2) else if bt a0 0 = 1 then (hushref16_word.f k a0 1).bind fun s => (hushref16_number.f k a0 s.2).bind fun n => (hushref16_word.f k a0 n.2).bind fun p => (hushref16_word.f k a0 p.2).bind fun t => (hushref16_number.f k a0 t.2).bind fun u => (hushref16_number.f k a0 u.2).bind fun v => (hushref16_number.f k a0 v.2).bind fun lo => (hushref16_number.f k a0 lo.2).bind fun hi => some (hushref16_Unpack.fin a0 hi.2 (1, s.1, n.1, p.1, t.1, u.1, v.1, lo.1, hi.1, 0, [], 0, 0, 0)) else if bt a0 0 = 2 then (hushref16_word.f k a0 1).bind fun s => (hushref16_number.f k a0 s.2).bind fun n => (hushref16_number.f k a0 n.2).bind fun e => (hushref16_count.f k a0 e.2).bind fun q => if 0 ≤ q.1 ∧ q.1 < 18446744073709551616 then (hushref16_Unpack.l0 k a0 q.2 q.1 []).bind fun vs => (hushref16_number.f k a0 vs.2).bind fun u => (hushref16_number.f k a0 u.2).bind fun v => some (hushref16_Unpack.fin a0 v.2 (2, s.1, n.1, ⟨#[]⟩, ⟨#[]⟩, 0, 0, 0, 0, e.1, vs.1, u.1, v.1, 0)) else none else some (hushref16_Unpack.no 2)
theorem hushref16_Unpack.mono_l : ∀ k, (∀ y0 y1 y2 y3, LeO (hushref16_Unpack.l0 k y0 y1 y2 y3) (hushref16_Unpack.l0 (k + 1) y0 y1 y2 y3))
  | 0 => fun _ _ _ _ => LeO.none _
  | k + 1 => fun a x n l => by
    rw [hushref16_Unpack.l0, hushref16_Unpack.l0]
    exact LeO.ite (LeO.ite (LeO.bind (hushref16_number.mono _ _ _) (fun _ => LeO.ite (hushref16_Unpack.mono_l k _ _ _ _) (LeO.refl _))) (LeO.refl _)) (LeO.refl _)
theorem hushref16_Unpack.mono : ∀ a0 k, LeO (hushref16_Unpack.f k a0) (hushref16_Unpack.f (k + 1) a0) := by
  intro a0 k
  unfold hushref16_Unpack.f
  have N := fun x => hushref16_number.mono a0 x k
  have W := fun x => hushref16_word.mono a0 x k
  refine LeO.ite (LeO.refl _) (LeO.ite (LeO.refl _) (LeO.ite ?_ (LeO.ite ?_ (LeO.refl _))))
  · exact LeO.bind (W _) fun _ => LeO.bind (N _) fun _ => LeO.bind (W _) fun _ => LeO.bind (W _) fun _ => LeO.bind (N _) fun _ => LeO.bind (N _) fun _ => LeO.bind (N _) fun _ => LeO.bind (N _) fun _ => LeO.refl _
  · exact LeO.bind (W _) fun _ => LeO.bind (N _) fun _ => LeO.bind (N _) fun _ => LeO.bind (hushref16_count.mono _ _ _) fun _ => LeO.ite (LeO.bind (hushref16_Unpack.mono_l _ _ _ _ _) fun _ => LeO.bind (N _) fun _ => LeO.bind (N _) fun _ => LeO.refl _) (LeO.refl _)
def ru_post (w : World) (m : RunM) (e : Ending) (w' : World) : Prop := ∃ v10_ : Value, e = .returned (.tuple #[.agg #[.int .i64 m.1, .string m.2.1, .int .i64 m.2.2.1, .string m.2.2.2.1, .string m.2.2.2.2.1, .int .i64 m.2.2.2.2.2.1, .int .i64 m.2.2.2.2.2.2.1, .int .i64 m.2.2.2.2.2.2.2.1, .int .i64 m.2.2.2.2.2.2.2.2.1, .int .i64 m.2.2.2.2.2.2.2.2.2.1, v10_, .int .i64 m.2.2.2.2.2.2.2.2.2.2.2.1, .int .i64 m.2.2.2.2.2.2.2.2.2.2.2.2.1], .int .i64 m.2.2.2.2.2.2.2.2.2.2.2.2.2]) ∧ Kd.R (Kd.int .i64) 3 w' w.heap.size (fun _ => True) v10_ m.2.2.2.2.2.2.2.2.2.2.1 ∧ Below w.heap.size w w'
theorem ru_post_of {w : World} {m m' : RunM} {e : Ending} {w' : World} (h : m = m') (k : ru_post w m' e w') : ru_post w m e w' := by subst h; exact k
theorem ru_int : (Try.prog.info? 3).map (fun i => (i.zero, i.size, i.bytes)) = some (some (.int .i64 0), 1, 8) := by kernel_rfl
theorem ru_form {w : World} {base : Nat} {e : TypeId} {size n : Nat} {v : Value} {xs : List Value} (h : w.ownsRow base e size v n xs) : ∃ A c, v = .slice A n c := by
  rcases h.2 with ⟨h0, h1⟩ | ⟨g, cap, cur, hv, _⟩
  · exact ⟨none, 0, by rw [h0, h1]⟩
  · exact ⟨_, _, hv⟩
theorem ru_go {f : Nat} {a : ByteArray} {x n : Int} {l : List Int} {r : List Int × Int} (h : hushref16_Unpack.l0 f a x n l = some r) (hn : 0 < n) (hx : 0 ≤ x) : ∃ f' z1 z2, hushref16_number.f f' a x = some (z1, z2) ∧ l.length < 17592186044416 ∧ hushref16_Unpack.l0 f' a z2 (n - 1) (l ++ [z1]) = some r := by
  cases f with
  | zero => cases h
  | succ f =>
    rw [hushref16_Unpack.l0, if_pos hn, if_pos hx] at h
    obtain ⟨⟨z1, z2⟩, hz, h⟩ := Option.bind_eq_some_iff.mp h
    split at h
    · exact ⟨f, z1, z2, hz, by assumption, h⟩
    · cases h
theorem ru_end {f : Nat} {a : ByteArray} {x n xN : Int} {l lN : List Int} (h : hushref16_Unpack.l0 f a x n l = some (lN, xN)) (hn : ¬ (0 < n ∧ 0 ≤ x)) : lN = l ∧ xN = x := by
  cases f with
  | zero => cases h
  | succ f =>
    rw [hushref16_Unpack.l0] at h
    split at h
    · split at h
      · rename_i h1 h2
        exact absurd ⟨h1, h2⟩ hn
      · cases h
        exact ⟨rfl, rfl⟩
    · cases h
      exact ⟨rfl, rfl⟩
set_option maxHeartbeats 4000000 in
set_option maxRecDepth 100000 in
theorem ru_big (a0 : ByteArray) (h : (a0.size : Int) > 65536) (w : World) : Calls Try.prog 15 #[.string a0] w (ru_post w (hushref16_Unpack.no 4)) := by
  have u40 := Try.underlying40
  have h' : (65536 : Int) < (a0.size : Int) := h
  clear h
  go_enter Try.func15, Try.ntmps15
  go_wp2
  exact bodyPost_ret (v := .tuple #[.agg #[.int .i64 0, .string ⟨#[]⟩, .int .i64 0, .string ⟨#[]⟩, .string ⟨#[]⟩, .int .i64 0, .int .i64 0, .int .i64 0, .int .i64 0, .int .i64 0, .slice none 0 0, .int .i64 0, .int .i64 0], .int .i64 4]) (by simp [results, Try.results15, go_sem]) rfl ⟨_, rfl, Kd.R_nil _ _ _ _ _, by repeat (first | exact below_alloc (Below.refl _ _) _ | refine below_set ?_ (Nat.le_refl _))⟩
set_option maxHeartbeats 4000000 in
set_option maxRecDepth 100000 in
theorem ru_none (a0 : ByteArray) (h1 : (a0.size : Int) = 0) (w : World) : Calls Try.prog 15 #[.string a0] w (ru_post w (hushref16_Unpack.no 2)) := by
  have u40 := Try.underlying40
  have t1 : decide ((65536 : Int) < (a0.size : Int)) = false := decide_eq_false (by omega)
  have t2 : ((a0.size : Int) == 0) = true := beq_iff_eq.mpr h1
  have t3 : (a0.size == 0) = true := beq_iff_eq.mpr (by omega)
  clear h1
  go_enter Try.func15, Try.ntmps15
  go_wp2
  exact bodyPost_ret (v := .tuple #[.agg #[.int .i64 0, .string ⟨#[]⟩, .int .i64 0, .string ⟨#[]⟩, .string ⟨#[]⟩, .int .i64 0, .int .i64 0, .int .i64 0, .int .i64 0, .int .i64 0, .slice none 0 0, .int .i64 0, .int .i64 0], .int .i64 2]) (by simp [results, Try.results15, go_sem]) rfl ⟨_, rfl, Kd.R_nil _ _ _ _ _, by repeat (first | exact below_alloc (Below.refl _ _) _ | refine below_set ?_ (Nat.le_refl _))⟩
set_option maxHeartbeats 4000000 in
set_option maxRecDepth 100000 in
theorem ru_kind (a0 : ByteArray) (c : Int) (hc : bt a0 0 = c) (h1 : ¬ (a0.size : Int) > 65536) (h0 : ¬ (a0.size : Int) = 0) (n1 : c ≠ 1) (n2 : c ≠ 2) (w : World) : Calls Try.prog 15 #[.string a0] w (ru_post w (hushref16_Unpack.no 2)) := by
  have u40 := Try.underlying40
  have hx : ∀ h : 0 < a0.size, ((a0[0]'h).toNat : Int) = c := fun h => by rw [← hc]; exact bt_at a0 0 h
  have q1 : (0 < a0.size) = True := eq_true (by omega)
  have q2 : (0 < (a0.size : Int)) = True := eq_true (by omega)
  have t1 : decide ((65536 : Int) < (a0.size : Int)) = false := decide_eq_false (by omega)
  have t2 : ((a0.size : Int) == 0) = false := beq_eq_false_iff_ne.mpr h0
  have t3 : (a0.size == 0) = false := beq_eq_false_iff_ne.mpr (by omega)
  have t4 : (c != 1) = true := bne_iff_ne.mpr n1
  have t5 : (c != 2) = true := bne_iff_ne.mpr n2
  clear h1 h0 n1 n2 hc
  go_enter Try.func15, Try.ntmps15
  go_wp2
  exact bodyPost_ret (v := .tuple #[.agg #[.int .i64 0, .string ⟨#[]⟩, .int .i64 0, .string ⟨#[]⟩, .string ⟨#[]⟩, .int .i64 0, .int .i64 0, .int .i64 0, .int .i64 0, .int .i64 0, .slice none 0 0, .int .i64 0, .int .i64 0], .int .i64 2]) (by simp [results, Try.results15, go_sem]) rfl ⟨_, rfl, Kd.R_nil _ _ _ _ _, by repeat (first | exact below_alloc (Below.refl _ _) _ | refine below_set ?_ (Nat.le_refl _))⟩
set_option maxHeartbeats 16000000 in
set_option maxRecDepth 100000 in
theorem ru_c1 (k : Nat) (a0 : ByteArray) (w : World) (h1 : ¬ (a0.size : Int) > 65536) (h0 : ¬ (a0.size : Int) = 0) (hc : bt a0 0 = 1) (s : ByteArray) (x1 : Int) (g1 : hushref16_word.f k a0 1 = some (s, x1)) (n : Int) (x2 : Int) (g2 : hushref16_number.f k a0 x1 = some (n, x2)) (p : ByteArray) (x3 : Int) (g3 : hushref16_word.f k a0 x2 = some (p, x3)) (t : ByteArray) (x4 : Int) (g4 : hushref16_word.f k a0 x3 = some (t, x4)) (ru : Int) (x5 : Int) (g5 : hushref16_number.f k a0 x4 = some (ru, x5)) (rd_ : Int) (x6 : Int) (g6 : hushref16_number.f k a0 x5 = some (rd_, x6)) (lo : Int) (x7 : Int) (g7 : hushref16_number.f k a0 x6 = some (lo, x7)) (hi : Int) (x8 : Int) (g8 : hushref16_number.f k a0 x7 = some (hi, x8)) :
    Calls Try.prog 15 #[.string a0] w (ru_post w (hushref16_Unpack.fin a0 x8 (1, s, n, p, t, ru, rd_, lo, hi, 0, [], 0, 0, 0))) := by
  have u40 := Try.underlying40
  have u38 := Try.underlying38
  have hx : ∀ h : 0 < a0.size, ((a0[0]'h).toNat : Int) = 1 := fun h => by rw [← hc]; exact bt_at a0 0 h
  have q1 : (0 < a0.size) = True := eq_true (by omega)
  have q2 : (0 < (a0.size : Int)) = True := eq_true (by omega)
  have t1 : decide ((65536 : Int) < (a0.size : Int)) = false := decide_eq_false (by omega)
  have t2 : ((a0.size : Int) == 0) = false := beq_eq_false_iff_ne.mpr h0
  have t3 : (a0.size == 0) = false := beq_eq_false_iff_ne.mpr (by omega)
  have G1 := Aside0.mk g1
  have G2 := Aside0.mk g2
  have G3 := Aside0.mk g3
  have G4 := Aside0.mk g4
  have G5 := Aside0.mk g5
  have G6 := Aside0.mk g6
  have G7 := Aside0.mk g7
  have G8 := Aside0.mk g8
  clear h1 h0 hc g1 g2 g3 g4 g5 g6 g7 g8
  go_enter Try.func15, Try.ntmps15
  go_wp2_with fail
  obtain ⟨w0, hw0⟩ : ∃ w0, w0 = (w.alloc (.cells #[.int .i64 0, .string ⟨#[]⟩, .int .i64 0, .string ⟨#[]⟩, .string ⟨#[]⟩, .int .i64 0, .int .i64 0, .int .i64 0, .int .i64 0, .int .i64 0, .slice none 0 0, .int .i64 0, .int .i64 0] 40)).alloc (.cells #[.int .i64 1, .string ⟨#[]⟩, .int .i64 0, .string ⟨#[]⟩, .string ⟨#[]⟩, .int .i64 0, .int .i64 0, .int .i64 0, .int .i64 0, .int .i64 0, .slice none 0 0, .int .i64 0, .int .i64 0] 40) := ⟨_, rfl⟩
  rw [← hw0]
  have HR0 := Aside0.mk (show w0.heap[w.heap.size]? = some (.cells #[.int .i64 0, .string ⟨#[]⟩, .int .i64 0, .string ⟨#[]⟩, .string ⟨#[]⟩, .int .i64 0, .int .i64 0, .int .i64 0, .int .i64 0, .int .i64 0, .slice none 0 0, .int .i64 0, .int .i64 0] 40 (0, 0)) by rw [hw0]; exact blk_alloc (blk_new w _) _)
  have HM0 := Aside0.mk (show w0.heap[w.heap.size + 1]? = some (.cells #[.int .i64 1, .string ⟨#[]⟩, .int .i64 0, .string ⟨#[]⟩, .string ⟨#[]⟩, .int .i64 0, .int .i64 0, .int .i64 0, .int .i64 0, .int .i64 0, .slice none 0 0, .int .i64 0, .int .i64 0] 40 (0, 0)) by rw [hw0]; have := blk_new (w.alloc (.cells #[.int .i64 0, .string ⟨#[]⟩, .int .i64 0, .string ⟨#[]⟩, .string ⟨#[]⟩, .int .i64 0, .int .i64 0, .int .i64 0, .int .i64 0, .int .i64 0, .slice none 0 0, .int .i64 0, .int .i64 0] 40)) (.cells #[.int .i64 1, .string ⟨#[]⟩, .int .i64 0, .string ⟨#[]⟩, .string ⟨#[]⟩, .int .i64 0, .int .i64 0, .int .i64 0, .int .i64 0, .int .i64 0, .slice none 0 0, .int .i64 0, .int .i64 0] 40); rw [World.size_alloc] at this; exact this)
  have HB0 := Aside0.mk (show Below w.heap.size w w0 by rw [hw0]; exact below_alloc (below_alloc (Below.refl _ _) _) _)
  have hz0 : w0.heap.size = w.heap.size + 2 := by rw [hw0]; simp
  clear hw0
  refine (hushref16_word.calls k a0 (1) s x1 _ G1.out).mono ?_
  rintro e w1 ⟨rfl, hd_⟩
  have hb_ := hd_.below
  have HR1 := Aside0.mk (blk_below HR0.out hb_)
  have HM1 := Aside0.mk (blk_below HM0.out hb_)
  have HB1 := Aside0.mk (below_step HB0.out hb_)
  have hz1 := hb_.size
  clear hd_ hb_ HR0 HM0 HB0 G1
  have kcHM1 : w1.cell? ⟨w.heap.size + 1, 1, none⟩ = some (.string ⟨#[]⟩) := (blk_cell HM1.out 1).trans rfl
  have kfHM1 : w1.frozen? ⟨w.heap.size + 1, 1, none⟩ = false := blk_frozen HM1.out 1
  go_wp2_with fail
  clear kcHM1 kfHM1
  obtain ⟨w2, hw_⟩ : ∃ w', w' = (w1.setCell ⟨w.heap.size + 1, 1, none⟩ (.string s)) := ⟨_, rfl⟩
  rw [← hw_]
  have HM2 := Aside0.mk (show w2.heap[w.heap.size + 1]? = some (.cells #[.int .i64 1, .string s, .int .i64 0, .string ⟨#[]⟩, .string ⟨#[]⟩, .int .i64 0, .int .i64 0, .int .i64 0, .int .i64 0, .int .i64 0, .slice none 0 0, .int .i64 0, .int .i64 0] 40 (0, 0)) by rw [hw_]; exact (blk_put HM1.out 1 _ rfl))
  have HR2 := Aside0.mk (show w2.heap[w.heap.size]? = some (.cells #[.int .i64 0, .string ⟨#[]⟩, .int .i64 0, .string ⟨#[]⟩, .string ⟨#[]⟩, .int .i64 0, .int .i64 0, .int .i64 0, .int .i64 0, .int .i64 0, .slice none 0 0, .int .i64 0, .int .i64 0] 40 (0, 0)) by rw [hw_, Below.heap_setCell _ _ _ _ (by simp)]; exact HR1.out)
  have HB2 := Aside0.mk (show Below w.heap.size w w2 by rw [hw_]; exact (below_set HB1.out (by omega)))
  have hz2 : w1.heap.size ≤ w2.heap.size := by rw [hw_]; simp
  clear  hw_ HM1 HR1 HB1
  refine (hushref16_number.calls k a0 (x1) n x2 _ G2.out).mono ?_
  rintro e w3 ⟨rfl, hd_⟩
  have hb_ := hd_.below
  have HR3 := Aside0.mk (blk_below HR2.out hb_)
  have HM3 := Aside0.mk (blk_below HM2.out hb_)
  have HB3 := Aside0.mk (below_step HB2.out hb_)
  have hz3 := hb_.size
  clear hd_ hb_ HR2 HM2 HB2 G2
  have kcHM2 : w3.cell? ⟨w.heap.size + 1, 2, none⟩ = some (.int .i64 0) := (blk_cell HM3.out 2).trans rfl
  have kfHM2 : w3.frozen? ⟨w.heap.size + 1, 2, none⟩ = false := blk_frozen HM3.out 2
  have kcHM0 : w3.cell? ⟨w.heap.size + 1, 0, none⟩ = some (.int .i64 1) := (blk_cell HM3.out 0).trans rfl
  have kfHM0 : w3.frozen? ⟨w.heap.size + 1, 0, none⟩ = false := blk_frozen HM3.out 0
  go_wp2_with fail
  clear kcHM2 kfHM2 kcHM0 kfHM0
  obtain ⟨w4, hw_⟩ : ∃ w', w' = (w3.setCell ⟨w.heap.size + 1, 2, none⟩ (.int .i64 n)) := ⟨_, rfl⟩
  rw [← hw_]
  have HM4 := Aside0.mk (show w4.heap[w.heap.size + 1]? = some (.cells #[.int .i64 1, .string s, .int .i64 n, .string ⟨#[]⟩, .string ⟨#[]⟩, .int .i64 0, .int .i64 0, .int .i64 0, .int .i64 0, .int .i64 0, .slice none 0 0, .int .i64 0, .int .i64 0] 40 (0, 0)) by rw [hw_]; exact (blk_put HM3.out 2 _ rfl))
  have HR4 := Aside0.mk (show w4.heap[w.heap.size]? = some (.cells #[.int .i64 0, .string ⟨#[]⟩, .int .i64 0, .string ⟨#[]⟩, .string ⟨#[]⟩, .int .i64 0, .int .i64 0, .int .i64 0, .int .i64 0, .int .i64 0, .slice none 0 0, .int .i64 0, .int .i64 0] 40 (0, 0)) by rw [hw_, Below.heap_setCell _ _ _ _ (by simp)]; exact HR3.out)
  have HB4 := Aside0.mk (show Below w.heap.size w w4 by rw [hw_]; exact (below_set HB3.out (by omega)))
  have hz4 : w3.heap.size ≤ w4.heap.size := by rw [hw_]; simp
  clear  hw_ HM3 HR3 HB3
  refine (hushref16_word.calls k a0 (x2) p x3 _ G3.out).mono ?_
  rintro e w5 ⟨rfl, hd_⟩
  have hb_ := hd_.below
  have HR5 := Aside0.mk (blk_below HR4.out hb_)
  have HM5 := Aside0.mk (blk_below HM4.out hb_)
  have HB5 := Aside0.mk (below_step HB4.out hb_)
  have hz5 := hb_.size
  clear hd_ hb_ HR4 HM4 HB4 G3
  have kcHM3 : w5.cell? ⟨w.heap.size + 1, 3, none⟩ = some (.string ⟨#[]⟩) := (blk_cell HM5.out 3).trans rfl
  have kfHM3 : w5.frozen? ⟨w.heap.size + 1, 3, none⟩ = false := blk_frozen HM5.out 3
  go_wp2_with fail
  clear kcHM3 kfHM3
  obtain ⟨w6, hw_⟩ : ∃ w', w' = (w5.setCell ⟨w.heap.size + 1, 3, none⟩ (.string p)) := ⟨_, rfl⟩
  rw [← hw_]
  have HM6 := Aside0.mk (show w6.heap[w.heap.size + 1]? = some (.cells #[.int .i64 1, .string s, .int .i64 n, .string p, .string ⟨#[]⟩, .int .i64 0, .int .i64 0, .int .i64 0, .int .i64 0, .int .i64 0, .slice none 0 0, .int .i64 0, .int .i64 0] 40 (0, 0)) by rw [hw_]; exact (blk_put HM5.out 3 _ rfl))
  have HR6 := Aside0.mk (show w6.heap[w.heap.size]? = some (.cells #[.int .i64 0, .string ⟨#[]⟩, .int .i64 0, .string ⟨#[]⟩, .string ⟨#[]⟩, .int .i64 0, .int .i64 0, .int .i64 0, .int .i64 0, .int .i64 0, .slice none 0 0, .int .i64 0, .int .i64 0] 40 (0, 0)) by rw [hw_, Below.heap_setCell _ _ _ _ (by simp)]; exact HR5.out)
  have HB6 := Aside0.mk (show Below w.heap.size w w6 by rw [hw_]; exact (below_set HB5.out (by omega)))
  have hz6 : w5.heap.size ≤ w6.heap.size := by rw [hw_]; simp
  clear  hw_ HM5 HR5 HB5
  refine (hushref16_word.calls k a0 (x3) t x4 _ G4.out).mono ?_
  rintro e w7 ⟨rfl, hd_⟩
  have hb_ := hd_.below
  have HR7 := Aside0.mk (blk_below HR6.out hb_)
  have HM7 := Aside0.mk (blk_below HM6.out hb_)
  have HB7 := Aside0.mk (below_step HB6.out hb_)
  have hz7 := hb_.size
  clear hd_ hb_ HR6 HM6 HB6 G4
  have kcHM4 : w7.cell? ⟨w.heap.size + 1, 4, none⟩ = some (.string ⟨#[]⟩) := (blk_cell HM7.out 4).trans rfl
  have kfHM4 : w7.frozen? ⟨w.heap.size + 1, 4, none⟩ = false := blk_frozen HM7.out 4
  go_wp2_with fail
  clear kcHM4 kfHM4
  obtain ⟨w8, hw_⟩ : ∃ w', w' = (w7.setCell ⟨w.heap.size + 1, 4, none⟩ (.string t)) := ⟨_, rfl⟩
  rw [← hw_]
  have HM8 := Aside0.mk (show w8.heap[w.heap.size + 1]? = some (.cells #[.int .i64 1, .string s, .int .i64 n, .string p, .string t, .int .i64 0, .int .i64 0, .int .i64 0, .int .i64 0, .int .i64 0, .slice none 0 0, .int .i64 0, .int .i64 0] 40 (0, 0)) by rw [hw_]; exact (blk_put HM7.out 4 _ rfl))
  have HR8 := Aside0.mk (show w8.heap[w.heap.size]? = some (.cells #[.int .i64 0, .string ⟨#[]⟩, .int .i64 0, .string ⟨#[]⟩, .string ⟨#[]⟩, .int .i64 0, .int .i64 0, .int .i64 0, .int .i64 0, .int .i64 0, .slice none 0 0, .int .i64 0, .int .i64 0] 40 (0, 0)) by rw [hw_, Below.heap_setCell _ _ _ _ (by simp)]; exact HR7.out)
  have HB8 := Aside0.mk (show Below w.heap.size w w8 by rw [hw_]; exact (below_set HB7.out (by omega)))
  have hz8 : w7.heap.size ≤ w8.heap.size := by rw [hw_]; simp
  clear  hw_ HM7 HR7 HB7
  refine (hushref16_number.calls k a0 (x4) ru x5 _ G5.out).mono ?_
  rintro e w9 ⟨rfl, hd_⟩
  have hb_ := hd_.below
  have HR9 := Aside0.mk (blk_below HR8.out hb_)
  have HM9 := Aside0.mk (blk_below HM8.out hb_)
  have HB9 := Aside0.mk (below_step HB8.out hb_)
  have hz9 := hb_.size
  clear hd_ hb_ HR8 HM8 HB8 G5
  have kcHM5 : w9.cell? ⟨w.heap.size + 1, 5, none⟩ = some (.int .i64 0) := (blk_cell HM9.out 5).trans rfl
  have kfHM5 : w9.frozen? ⟨w.heap.size + 1, 5, none⟩ = false := blk_frozen HM9.out 5
  go_wp2_with fail
  clear kcHM5 kfHM5
  obtain ⟨w10, hw_⟩ : ∃ w', w' = (w9.setCell ⟨w.heap.size + 1, 5, none⟩ (.int .i64 ru)) := ⟨_, rfl⟩
  rw [← hw_]
  have HM10 := Aside0.mk (show w10.heap[w.heap.size + 1]? = some (.cells #[.int .i64 1, .string s, .int .i64 n, .string p, .string t, .int .i64 ru, .int .i64 0, .int .i64 0, .int .i64 0, .int .i64 0, .slice none 0 0, .int .i64 0, .int .i64 0] 40 (0, 0)) by rw [hw_]; exact (blk_put HM9.out 5 _ rfl))
  have HR10 := Aside0.mk (show w10.heap[w.heap.size]? = some (.cells #[.int .i64 0, .string ⟨#[]⟩, .int .i64 0, .string ⟨#[]⟩, .string ⟨#[]⟩, .int .i64 0, .int .i64 0, .int .i64 0, .int .i64 0, .int .i64 0, .slice none 0 0, .int .i64 0, .int .i64 0] 40 (0, 0)) by rw [hw_, Below.heap_setCell _ _ _ _ (by simp)]; exact HR9.out)
  have HB10 := Aside0.mk (show Below w.heap.size w w10 by rw [hw_]; exact (below_set HB9.out (by omega)))
  have hz10 : w9.heap.size ≤ w10.heap.size := by rw [hw_]; simp
  clear  hw_ HM9 HR9 HB9
  refine (hushref16_number.calls k a0 (x5) rd_ x6 _ G6.out).mono ?_
  rintro e w11 ⟨rfl, hd_⟩
  have hb_ := hd_.below
  have HR11 := Aside0.mk (blk_below HR10.out hb_)
  have HM11 := Aside0.mk (blk_below HM10.out hb_)
  have HB11 := Aside0.mk (below_step HB10.out hb_)
  have hz11 := hb_.size
  clear hd_ hb_ HR10 HM10 HB10 G6
  have kcHM6 : w11.cell? ⟨w.heap.size + 1, 6, none⟩ = some (.int .i64 0) := (blk_cell HM11.out 6).trans rfl
  have kfHM6 : w11.frozen? ⟨w.heap.size + 1, 6, none⟩ = false := blk_frozen HM11.out 6
  go_wp2_with fail
  clear kcHM6 kfHM6
  obtain ⟨w12, hw_⟩ : ∃ w', w' = (w11.setCell ⟨w.heap.size + 1, 6, none⟩ (.int .i64 rd_)) := ⟨_, rfl⟩
  rw [← hw_]
  have HM12 := Aside0.mk (show w12.heap[w.heap.size + 1]? = some (.cells #[.int .i64 1, .string s, .int .i64 n, .string p, .string t, .int .i64 ru, .int .i64 rd_, .int .i64 0, .int .i64 0, .int .i64 0, .slice none 0 0, .int .i64 0, .int .i64 0] 40 (0, 0)) by rw [hw_]; exact (blk_put HM11.out 6 _ rfl))
  have HR12 := Aside0.mk (show w12.heap[w.heap.size]? = some (.cells #[.int .i64 0, .string ⟨#[]⟩, .int .i64 0, .string ⟨#[]⟩, .string ⟨#[]⟩, .int .i64 0, .int .i64 0, .int .i64 0, .int .i64 0, .int .i64 0, .slice none 0 0, .int .i64 0, .int .i64 0] 40 (0, 0)) by rw [hw_, Below.heap_setCell _ _ _ _ (by simp)]; exact HR11.out)
  have HB12 := Aside0.mk (show Below w.heap.size w w12 by rw [hw_]; exact (below_set HB11.out (by omega)))
  have hz12 : w11.heap.size ≤ w12.heap.size := by rw [hw_]; simp
  clear  hw_ HM11 HR11 HB11
  refine (hushref16_number.calls k a0 (x6) lo x7 _ G7.out).mono ?_
  rintro e w13 ⟨rfl, hd_⟩
  have hb_ := hd_.below
  have HR13 := Aside0.mk (blk_below HR12.out hb_)
  have HM13 := Aside0.mk (blk_below HM12.out hb_)
  have HB13 := Aside0.mk (below_step HB12.out hb_)
  have hz13 := hb_.size
  clear hd_ hb_ HR12 HM12 HB12 G7
  have kcHM7 : w13.cell? ⟨w.heap.size + 1, 7, none⟩ = some (.int .i64 0) := (blk_cell HM13.out 7).trans rfl
  have kfHM7 : w13.frozen? ⟨w.heap.size + 1, 7, none⟩ = false := blk_frozen HM13.out 7
  go_wp2_with fail
  clear kcHM7 kfHM7
  obtain ⟨w14, hw_⟩ : ∃ w', w' = (w13.setCell ⟨w.heap.size + 1, 7, none⟩ (.int .i64 lo)) := ⟨_, rfl⟩
  rw [← hw_]
  have HM14 := Aside0.mk (show w14.heap[w.heap.size + 1]? = some (.cells #[.int .i64 1, .string s, .int .i64 n, .string p, .string t, .int .i64 ru, .int .i64 rd_, .int .i64 lo, .int .i64 0, .int .i64 0, .slice none 0 0, .int .i64 0, .int .i64 0] 40 (0, 0)) by rw [hw_]; exact (blk_put HM13.out 7 _ rfl))
  have HR14 := Aside0.mk (show w14.heap[w.heap.size]? = some (.cells #[.int .i64 0, .string ⟨#[]⟩, .int .i64 0, .string ⟨#[]⟩, .string ⟨#[]⟩, .int .i64 0, .int .i64 0, .int .i64 0, .int .i64 0, .int .i64 0, .slice none 0 0, .int .i64 0, .int .i64 0] 40 (0, 0)) by rw [hw_, Below.heap_setCell _ _ _ _ (by simp)]; exact HR13.out)
  have HB14 := Aside0.mk (show Below w.heap.size w w14 by rw [hw_]; exact (below_set HB13.out (by omega)))
  have hz14 : w13.heap.size ≤ w14.heap.size := by rw [hw_]; simp
  clear  hw_ HM13 HR13 HB13
  refine (hushref16_number.calls k a0 (x7) hi x8 _ G8.out).mono ?_
  rintro e w15 ⟨rfl, hd_⟩
  have hb_ := hd_.below
  have HR15 := Aside0.mk (blk_below HR14.out hb_)
  have HM15 := Aside0.mk (blk_below HM14.out hb_)
  have HB15 := Aside0.mk (below_step HB14.out hb_)
  have hz15 := hb_.size
  clear hd_ hb_ HR14 HM14 HB14 G8
  have kcHM8 : w15.cell? ⟨w.heap.size + 1, 8, none⟩ = some (.int .i64 0) := (blk_cell HM15.out 8).trans rfl
  have kfHM8 : w15.frozen? ⟨w.heap.size + 1, 8, none⟩ = false := blk_frozen HM15.out 8
  go_upto_region 26 with (fail)
  clear kcHM8 kfHM8
  obtain ⟨w16, hw_⟩ : ∃ w', w' = (w15.setCell ⟨w.heap.size + 1, 8, none⟩ (.int .i64 hi)) := ⟨_, rfl⟩
  rw [← hw_]
  have HM16 := Aside0.mk (show w16.heap[w.heap.size + 1]? = some (.cells #[.int .i64 1, .string s, .int .i64 n, .string p, .string t, .int .i64 ru, .int .i64 rd_, .int .i64 lo, .int .i64 hi, .int .i64 0, .slice none 0 0, .int .i64 0, .int .i64 0] 40 (0, 0)) by rw [hw_]; exact (blk_put HM15.out 8 _ rfl))
  have HR16 := Aside0.mk (show w16.heap[w.heap.size]? = some (.cells #[.int .i64 0, .string ⟨#[]⟩, .int .i64 0, .string ⟨#[]⟩, .string ⟨#[]⟩, .int .i64 0, .int .i64 0, .int .i64 0, .int .i64 0, .int .i64 0, .slice none 0 0, .int .i64 0, .int .i64 0] 40 (0, 0)) by rw [hw_, Below.heap_setCell _ _ _ _ (by simp)]; exact HR15.out)
  have HB16 := Aside0.mk (show Below w.heap.size w w16 by rw [hw_]; exact (below_set HB15.out (by omega)))
  have hz16 : w15.heap.size ≤ w16.heap.size := by rw [hw_]; simp
  clear  hw_ HM15 HR15 HB15
  have kcHM0 : w16.cell? ⟨w.heap.size + 1, 0, none⟩ = some (.int .i64 1) := (blk_cell HM16.out 0).trans rfl
  have kfHM0 : w16.frozen? ⟨w.heap.size + 1, 0, none⟩ = false := blk_frozen HM16.out 0
  have kcHM1 : w16.cell? ⟨w.heap.size + 1, 1, none⟩ = some (.string s) := (blk_cell HM16.out 1).trans rfl
  have kfHM1 : w16.frozen? ⟨w.heap.size + 1, 1, none⟩ = false := blk_frozen HM16.out 1
  have kcHM2 : w16.cell? ⟨w.heap.size + 1, 2, none⟩ = some (.int .i64 n) := (blk_cell HM16.out 2).trans rfl
  have kfHM2 : w16.frozen? ⟨w.heap.size + 1, 2, none⟩ = false := blk_frozen HM16.out 2
  have kcHM3 : w16.cell? ⟨w.heap.size + 1, 3, none⟩ = some (.string p) := (blk_cell HM16.out 3).trans rfl
  have kfHM3 : w16.frozen? ⟨w.heap.size + 1, 3, none⟩ = false := blk_frozen HM16.out 3
  have kcHM4 : w16.cell? ⟨w.heap.size + 1, 4, none⟩ = some (.string t) := (blk_cell HM16.out 4).trans rfl
  have kfHM4 : w16.frozen? ⟨w.heap.size + 1, 4, none⟩ = false := blk_frozen HM16.out 4
  have kcHM5 : w16.cell? ⟨w.heap.size + 1, 5, none⟩ = some (.int .i64 ru) := (blk_cell HM16.out 5).trans rfl
  have kfHM5 : w16.frozen? ⟨w.heap.size + 1, 5, none⟩ = false := blk_frozen HM16.out 5
  have kcHM6 : w16.cell? ⟨w.heap.size + 1, 6, none⟩ = some (.int .i64 rd_) := (blk_cell HM16.out 6).trans rfl
  have kfHM6 : w16.frozen? ⟨w.heap.size + 1, 6, none⟩ = false := blk_frozen HM16.out 6
  have kcHM7 : w16.cell? ⟨w.heap.size + 1, 7, none⟩ = some (.int .i64 lo) := (blk_cell HM16.out 7).trans rfl
  have kfHM7 : w16.frozen? ⟨w.heap.size + 1, 7, none⟩ = false := blk_frozen HM16.out 7
  have kcHM8 : w16.cell? ⟨w.heap.size + 1, 8, none⟩ = some (.int .i64 hi) := (blk_cell HM16.out 8).trans rfl
  have kfHM8 : w16.frozen? ⟨w.heap.size + 1, 8, none⟩ = false := blk_frozen HM16.out 8
  have kcHM9 : w16.cell? ⟨w.heap.size + 1, 9, none⟩ = some (.int .i64 0) := (blk_cell HM16.out 9).trans rfl
  have kfHM9 : w16.frozen? ⟨w.heap.size + 1, 9, none⟩ = false := blk_frozen HM16.out 9
  have kcHM10 : w16.cell? ⟨w.heap.size + 1, 10, none⟩ = some (.slice none 0 0) := (blk_cell HM16.out 10).trans rfl
  have kfHM10 : w16.frozen? ⟨w.heap.size + 1, 10, none⟩ = false := blk_frozen HM16.out 10
  have kcHM11 : w16.cell? ⟨w.heap.size + 1, 11, none⟩ = some (.int .i64 0) := (blk_cell HM16.out 11).trans rfl
  have kfHM11 : w16.frozen? ⟨w.heap.size + 1, 11, none⟩ = false := blk_frozen HM16.out 11
  have kcHM12 : w16.cell? ⟨w.heap.size + 1, 12, none⟩ = some (.int .i64 0) := (blk_cell HM16.out 12).trans rfl
  have kfHM12 : w16.frozen? ⟨w.heap.size + 1, 12, none⟩ = false := blk_frozen HM16.out 12
  have kcHR0 : w16.cell? ⟨w.heap.size, 0, none⟩ = some (.int .i64 0) := (blk_cell HR16.out 0).trans rfl
  have kfHR0 : w16.frozen? ⟨w.heap.size, 0, none⟩ = false := blk_frozen HR16.out 0
  have kcHR1 : w16.cell? ⟨w.heap.size, 1, none⟩ = some (.string ⟨#[]⟩) := (blk_cell HR16.out 1).trans rfl
  have kfHR1 : w16.frozen? ⟨w.heap.size, 1, none⟩ = false := blk_frozen HR16.out 1
  have kcHR2 : w16.cell? ⟨w.heap.size, 2, none⟩ = some (.int .i64 0) := (blk_cell HR16.out 2).trans rfl
  have kfHR2 : w16.frozen? ⟨w.heap.size, 2, none⟩ = false := blk_frozen HR16.out 2
  have kcHR3 : w16.cell? ⟨w.heap.size, 3, none⟩ = some (.string ⟨#[]⟩) := (blk_cell HR16.out 3).trans rfl
  have kfHR3 : w16.frozen? ⟨w.heap.size, 3, none⟩ = false := blk_frozen HR16.out 3
  have kcHR4 : w16.cell? ⟨w.heap.size, 4, none⟩ = some (.string ⟨#[]⟩) := (blk_cell HR16.out 4).trans rfl
  have kfHR4 : w16.frozen? ⟨w.heap.size, 4, none⟩ = false := blk_frozen HR16.out 4
  have kcHR5 : w16.cell? ⟨w.heap.size, 5, none⟩ = some (.int .i64 0) := (blk_cell HR16.out 5).trans rfl
  have kfHR5 : w16.frozen? ⟨w.heap.size, 5, none⟩ = false := blk_frozen HR16.out 5
  have kcHR6 : w16.cell? ⟨w.heap.size, 6, none⟩ = some (.int .i64 0) := (blk_cell HR16.out 6).trans rfl
  have kfHR6 : w16.frozen? ⟨w.heap.size, 6, none⟩ = false := blk_frozen HR16.out 6
  have kcHR7 : w16.cell? ⟨w.heap.size, 7, none⟩ = some (.int .i64 0) := (blk_cell HR16.out 7).trans rfl
  have kfHR7 : w16.frozen? ⟨w.heap.size, 7, none⟩ = false := blk_frozen HR16.out 7
  have kcHR8 : w16.cell? ⟨w.heap.size, 8, none⟩ = some (.int .i64 0) := (blk_cell HR16.out 8).trans rfl
  have kfHR8 : w16.frozen? ⟨w.heap.size, 8, none⟩ = false := blk_frozen HR16.out 8
  have kcHR9 : w16.cell? ⟨w.heap.size, 9, none⟩ = some (.int .i64 0) := (blk_cell HR16.out 9).trans rfl
  have kfHR9 : w16.frozen? ⟨w.heap.size, 9, none⟩ = false := blk_frozen HR16.out 9
  have kcHR10 : w16.cell? ⟨w.heap.size, 10, none⟩ = some (.slice none 0 0) := (blk_cell HR16.out 10).trans rfl
  have kfHR10 : w16.frozen? ⟨w.heap.size, 10, none⟩ = false := blk_frozen HR16.out 10
  have kcHR11 : w16.cell? ⟨w.heap.size, 11, none⟩ = some (.int .i64 0) := (blk_cell HR16.out 11).trans rfl
  have kfHR11 : w16.frozen? ⟨w.heap.size, 11, none⟩ = false := blk_frozen HR16.out 11
  have kcHR12 : w16.cell? ⟨w.heap.size, 12, none⟩ = some (.int .i64 0) := (blk_cell HR16.out 12).trans rfl
  have kfHR12 : w16.frozen? ⟨w.heap.size, 12, none⟩ = false := blk_frozen HR16.out 12
  by_cases he : x8 = (a0.size : Int)
  · have he0 : (x8 == (a0.size : Int)) = true := beq_iff_eq.mpr he
    have he1 : (x8 != (a0.size : Int)) = false := bne_eq_false_iff_eq.mpr he
    have HV := Aside0.mk (show hushref16_Unpack.fin a0 x8 (1, s, n, p, t, ru, rd_, lo, hi, 0, [], 0, 0, 0) = (1, s, n, p, t, ru, rd_, lo, hi, 0, [], 0, 0, 0) by rw [hushref16_Unpack.fin, if_pos he])
    clear he
    go_wp2
    exact bodyPost_ret (v := .tuple #[.agg #[.int .i64 1, .string s, .int .i64 n, .string p, .string t, .int .i64 ru, .int .i64 rd_, .int .i64 lo, .int .i64 hi, .int .i64 0, .slice none 0 0, .int .i64 0, .int .i64 0], .int .i64 0]) (by simp [results, Try.results15, go_sem, *]) rfl (ru_post_of HV.out ⟨_, rfl, Kd.R_nil _ _ _ _ _, (by (repeat (refine below_set ?_ (by omega))); exact HB16.out)⟩)
  · have he0 : (x8 == (a0.size : Int)) = false := beq_eq_false_iff_ne.mpr he
    have he1 : (x8 != (a0.size : Int)) = true := bne_iff_ne.mpr he
    have HV := Aside0.mk (show hushref16_Unpack.fin a0 x8 (1, s, n, p, t, ru, rd_, lo, hi, 0, [], 0, 0, 0) = hushref16_Unpack.no 2 by rw [hushref16_Unpack.fin, if_neg he])
    clear he
    go_wp2
    exact bodyPost_ret (v := .tuple #[.agg #[.int .i64 0, .string ⟨#[]⟩, .int .i64 0, .string ⟨#[]⟩, .string ⟨#[]⟩, .int .i64 0, .int .i64 0, .int .i64 0, .int .i64 0, .int .i64 0, .slice none 0 0, .int .i64 0, .int .i64 0], .int .i64 2]) (by simp [results, Try.results15, go_sem, *]) rfl (ru_post_of HV.out ⟨_, rfl, Kd.R_nil _ _ _ _ _, (by (repeat (refine below_set ?_ (by omega))); exact HB16.out)⟩)
set_option maxHeartbeats 16000000 in
set_option maxRecDepth 100000 in
theorem ru_c2 (k : Nat) (a0 : ByteArray) (w : World) (h1 : ¬ (a0.size : Int) > 65536) (h0 : ¬ (a0.size : Int) = 0) (hc : bt a0 0 = 2) (s : ByteArray) (x1 : Int) (g1 : hushref16_word.f k a0 1 = some (s, x1)) (n : Int) (x2 : Int) (g2 : hushref16_number.f k a0 x1 = some (n, x2)) (e_ x3 : Int) (g3 : hushref16_number.f k a0 x2 = some (e_, x3)) (q x4 : Int) (g4 : hushref16_count.f k a0 x3 = some (q, x4)) (hq1 : 0 ≤ q) (hq2 : q < 18446744073709551616) (lN : List Int) (xN : Int) (hV : hushref16_Unpack.l0 k a0 x4 q [] = some (lN, xN)) (ru x6 : Int) (g6 : hushref16_number.f k a0 xN = some (ru, x6)) (rd_ x7 : Int) (g7 : hushref16_number.f k a0 x6 = some (rd_, x7)) :
    Calls Try.prog 15 #[.string a0] w (ru_post w (hushref16_Unpack.fin a0 x7 (2, s, n, ⟨#[]⟩, ⟨#[]⟩, 0, 0, 0, 0, e_, lN, ru, rd_, 0))) := by
  have u40 := Try.underlying40
  have u38 := Try.underlying38
  have hx : ∀ h : 0 < a0.size, ((a0[0]'h).toNat : Int) = 2 := fun h => by rw [← hc]; exact bt_at a0 0 h
  have q1 : (0 < a0.size) = True := eq_true (by omega)
  have q2 : (0 < (a0.size : Int)) = True := eq_true (by omega)
  have t1 : decide ((65536 : Int) < (a0.size : Int)) = false := decide_eq_false (by omega)
  have t2 : ((a0.size : Int) == 0) = false := beq_eq_false_iff_ne.mpr h0
  have t3 : (a0.size == 0) = false := beq_eq_false_iff_ne.mpr (by omega)
  have G1 := Aside0.mk g1
  have G2 := Aside0.mk g2
  have G3 := Aside0.mk g3
  have G4 := Aside0.mk g4
  have HV := Aside0.mk hV
  have G6 := Aside0.mk g6
  have G7 := Aside0.mk g7
  clear h1 h0 hc g1 g2 g3 g4 hV g6 g7
  go_enter Try.func15, Try.ntmps15
  go_wp2_with fail
  obtain ⟨w0, hw0⟩ : ∃ w0, w0 = (w.alloc (.cells #[.int .i64 0, .string ⟨#[]⟩, .int .i64 0, .string ⟨#[]⟩, .string ⟨#[]⟩, .int .i64 0, .int .i64 0, .int .i64 0, .int .i64 0, .int .i64 0, .slice none 0 0, .int .i64 0, .int .i64 0] 40)).alloc (.cells #[.int .i64 2, .string ⟨#[]⟩, .int .i64 0, .string ⟨#[]⟩, .string ⟨#[]⟩, .int .i64 0, .int .i64 0, .int .i64 0, .int .i64 0, .int .i64 0, .slice none 0 0, .int .i64 0, .int .i64 0] 40) := ⟨_, rfl⟩
  rw [← hw0]
  have HR0 := Aside0.mk (show w0.heap[w.heap.size]? = some (.cells #[.int .i64 0, .string ⟨#[]⟩, .int .i64 0, .string ⟨#[]⟩, .string ⟨#[]⟩, .int .i64 0, .int .i64 0, .int .i64 0, .int .i64 0, .int .i64 0, .slice none 0 0, .int .i64 0, .int .i64 0] 40 (0, 0)) by rw [hw0]; exact blk_alloc (blk_new w _) _)
  have HM0 := Aside0.mk (show w0.heap[w.heap.size + 1]? = some (.cells #[.int .i64 2, .string ⟨#[]⟩, .int .i64 0, .string ⟨#[]⟩, .string ⟨#[]⟩, .int .i64 0, .int .i64 0, .int .i64 0, .int .i64 0, .int .i64 0, .slice none 0 0, .int .i64 0, .int .i64 0] 40 (0, 0)) by rw [hw0]; have := blk_new (w.alloc (.cells #[.int .i64 0, .string ⟨#[]⟩, .int .i64 0, .string ⟨#[]⟩, .string ⟨#[]⟩, .int .i64 0, .int .i64 0, .int .i64 0, .int .i64 0, .int .i64 0, .slice none 0 0, .int .i64 0, .int .i64 0] 40)) (.cells #[.int .i64 2, .string ⟨#[]⟩, .int .i64 0, .string ⟨#[]⟩, .string ⟨#[]⟩, .int .i64 0, .int .i64 0, .int .i64 0, .int .i64 0, .int .i64 0, .slice none 0 0, .int .i64 0, .int .i64 0] 40); rw [World.size_alloc] at this; exact this)
  have HB0 := Aside0.mk (show Below w.heap.size w w0 by rw [hw0]; exact below_alloc (below_alloc (Below.refl _ _) _) _)
  have hz0 : w0.heap.size = w.heap.size + 2 := by rw [hw0]; simp
  clear hw0
  refine (hushref16_word.calls k a0 (1) s x1 _ G1.out).mono ?_
  rintro e w1 ⟨rfl, hd_⟩
  have hb_ := hd_.below
  have HR1 := Aside0.mk (blk_below HR0.out hb_)
  have HM1 := Aside0.mk (blk_below HM0.out hb_)
  have HB1 := Aside0.mk (below_step HB0.out hb_)
  have hz1 := hb_.size
  clear hd_ hb_ HR0 HM0 HB0 G1
  have kcHM1 : w1.cell? ⟨w.heap.size + 1, 1, none⟩ = some (.string ⟨#[]⟩) := (blk_cell HM1.out 1).trans rfl
  have kfHM1 : w1.frozen? ⟨w.heap.size + 1, 1, none⟩ = false := blk_frozen HM1.out 1
  go_wp2_with fail
  clear kcHM1 kfHM1
  obtain ⟨w2, hw_⟩ : ∃ w', w' = (w1.setCell ⟨w.heap.size + 1, 1, none⟩ (.string s)) := ⟨_, rfl⟩
  rw [← hw_]
  have HM2 := Aside0.mk (show w2.heap[w.heap.size + 1]? = some (.cells #[.int .i64 2, .string s, .int .i64 0, .string ⟨#[]⟩, .string ⟨#[]⟩, .int .i64 0, .int .i64 0, .int .i64 0, .int .i64 0, .int .i64 0, .slice none 0 0, .int .i64 0, .int .i64 0] 40 (0, 0)) by rw [hw_]; exact (blk_put HM1.out 1 _ rfl))
  have HR2 := Aside0.mk (show w2.heap[w.heap.size]? = some (.cells #[.int .i64 0, .string ⟨#[]⟩, .int .i64 0, .string ⟨#[]⟩, .string ⟨#[]⟩, .int .i64 0, .int .i64 0, .int .i64 0, .int .i64 0, .int .i64 0, .slice none 0 0, .int .i64 0, .int .i64 0] 40 (0, 0)) by rw [hw_, Below.heap_setCell _ _ _ _ (by simp)]; exact HR1.out)
  have HB2 := Aside0.mk (show Below w.heap.size w w2 by rw [hw_]; exact (below_set HB1.out (by omega)))
  have hz2 : w1.heap.size ≤ w2.heap.size := by rw [hw_]; simp
  clear  hw_ HM1 HR1 HB1
  refine (hushref16_number.calls k a0 (x1) n x2 _ G2.out).mono ?_
  rintro e w3 ⟨rfl, hd_⟩
  have hb_ := hd_.below
  have HR3 := Aside0.mk (blk_below HR2.out hb_)
  have HM3 := Aside0.mk (blk_below HM2.out hb_)
  have HB3 := Aside0.mk (below_step HB2.out hb_)
  have hz3 := hb_.size
  clear hd_ hb_ HR2 HM2 HB2 G2
  have kcHM2 : w3.cell? ⟨w.heap.size + 1, 2, none⟩ = some (.int .i64 0) := (blk_cell HM3.out 2).trans rfl
  have kfHM2 : w3.frozen? ⟨w.heap.size + 1, 2, none⟩ = false := blk_frozen HM3.out 2
  have kcHM0 : w3.cell? ⟨w.heap.size + 1, 0, none⟩ = some (.int .i64 2) := (blk_cell HM3.out 0).trans rfl
  have kfHM0 : w3.frozen? ⟨w.heap.size + 1, 0, none⟩ = false := blk_frozen HM3.out 0
  go_wp2_with fail
  clear kcHM2 kfHM2 kcHM0 kfHM0
  obtain ⟨w4, hw_⟩ : ∃ w', w' = (w3.setCell ⟨w.heap.size + 1, 2, none⟩ (.int .i64 n)) := ⟨_, rfl⟩
  rw [← hw_]
  have HM4 := Aside0.mk (show w4.heap[w.heap.size + 1]? = some (.cells #[.int .i64 2, .string s, .int .i64 n, .string ⟨#[]⟩, .string ⟨#[]⟩, .int .i64 0, .int .i64 0, .int .i64 0, .int .i64 0, .int .i64 0, .slice none 0 0, .int .i64 0, .int .i64 0] 40 (0, 0)) by rw [hw_]; exact (blk_put HM3.out 2 _ rfl))
  have HR4 := Aside0.mk (show w4.heap[w.heap.size]? = some (.cells #[.int .i64 0, .string ⟨#[]⟩, .int .i64 0, .string ⟨#[]⟩, .string ⟨#[]⟩, .int .i64 0, .int .i64 0, .int .i64 0, .int .i64 0, .int .i64 0, .slice none 0 0, .int .i64 0, .int .i64 0] 40 (0, 0)) by rw [hw_, Below.heap_setCell _ _ _ _ (by simp)]; exact HR3.out)
  have HB4 := Aside0.mk (show Below w.heap.size w w4 by rw [hw_]; exact (below_set HB3.out (by omega)))
  have hz4 : w3.heap.size ≤ w4.heap.size := by rw [hw_]; simp
  clear  hw_ HM3 HR3 HB3
  refine (hushref16_number.calls k a0 (x2) e_ x3 _ G3.out).mono ?_
  rintro e w5 ⟨rfl, hd_⟩
  have hb_ := hd_.below
  have HR5 := Aside0.mk (blk_below HR4.out hb_)
  have HM5 := Aside0.mk (blk_below HM4.out hb_)
  have HB5 := Aside0.mk (below_step HB4.out hb_)
  have hz5 := hb_.size
  clear hd_ hb_ HR4 HM4 HB4 G3
  have kcHM9 : w5.cell? ⟨w.heap.size + 1, 9, none⟩ = some (.int .i64 0) := (blk_cell HM5.out 9).trans rfl
  have kfHM9 : w5.frozen? ⟨w.heap.size + 1, 9, none⟩ = false := blk_frozen HM5.out 9
  go_wp2_with fail
  clear kcHM9 kfHM9
  obtain ⟨w6, hw_⟩ : ∃ w', w' = (w5.setCell ⟨w.heap.size + 1, 9, none⟩ (.int .i64 e_)) := ⟨_, rfl⟩
  rw [← hw_]
  have HM6 := Aside0.mk (show w6.heap[w.heap.size + 1]? = some (.cells #[.int .i64 2, .string s, .int .i64 n, .string ⟨#[]⟩, .string ⟨#[]⟩, .int .i64 0, .int .i64 0, .int .i64 0, .int .i64 0, .int .i64 e_, .slice none 0 0, .int .i64 0, .int .i64 0] 40 (0, 0)) by rw [hw_]; exact (blk_put HM5.out 9 _ rfl))
  have HR6 := Aside0.mk (show w6.heap[w.heap.size]? = some (.cells #[.int .i64 0, .string ⟨#[]⟩, .int .i64 0, .string ⟨#[]⟩, .string ⟨#[]⟩, .int .i64 0, .int .i64 0, .int .i64 0, .int .i64 0, .int .i64 0, .slice none 0 0, .int .i64 0, .int .i64 0] 40 (0, 0)) by rw [hw_, Below.heap_setCell _ _ _ _ (by simp)]; exact HR5.out)
  have HB6 := Aside0.mk (show Below w.heap.size w w6 by rw [hw_]; exact (below_set HB5.out (by omega)))
  have hz6 : w5.heap.size ≤ w6.heap.size := by rw [hw_]; simp
  clear  hw_ HM5 HR5 HB5
  refine (hushref16_count.calls k a0 (x3) q x4 _ G4.out).mono ?_
  rintro e w7 ⟨rfl, hd_⟩
  have hb_ := hd_.below
  have HR7 := Aside0.mk (blk_below HR6.out hb_)
  have HM7 := Aside0.mk (blk_below HM6.out hb_)
  have HB7 := Aside0.mk (below_step HB6.out hb_)
  have hz7 := hb_.size
  clear hd_ hb_ HR6 HM6 HB6 G4
  obtain ⟨i0, hi0, hz00, hz01, hz02⟩ := info_parts ru_int
  go_wp2_with fail
  go_loopw [5, 7, 8] (fun v5 v7 v8 wr => ∃ (x c6 y8 : Int) (l : List Int) (v : Value) (f : Nat), v5 = .int .i64 x ∧ v7 = .int .u64 c6 ∧ v8 = .int .i64 y8 ∧ 0 ≤ c6 ∧ c6 < 18446744073709551616 ∧ Aside0 (hushref16_Unpack.l0 f a0 x c6 l = some (lN, xN)) ∧ Aside0 (wr.heap[w.heap.size + 1]? = some (.cells #[.int .i64 2, .string s, .int .i64 n, .string ⟨#[]⟩, .string ⟨#[]⟩, .int .i64 0, .int .i64 0, .int .i64 0, .int .i64 0, .int .i64 e_, v, .int .i64 0, .int .i64 0] 40 (0, 0))) ∧ Aside0 (wr.heap[w.heap.size]? = some (.cells #[.int .i64 0, .string ⟨#[]⟩, .int .i64 0, .string ⟨#[]⟩, .string ⟨#[]⟩, .int .i64 0, .int .i64 0, .int .i64 0, .int .i64 0, .int .i64 0, .slice none 0 0, .int .i64 0, .int .i64 0] 40 (0, 0))) ∧ Aside0 (Below w.heap.size w wr) ∧ Aside0 (wr.ownsRow w.heap.size 3 1 v l.length (l.map (fun x => Value.int .i64 x))) ∧ v.ownBlock ≠ some (w.heap.size + 1) ∧ v.ownBlock ≠ some w.heap.size ∧ w.heap.size + 2 ≤ wr.heap.size) (fun v5 v7 v8 _ => (intOf v7).toNat)
  case atStart => exact ⟨x4, q, 0, [], .slice none 0 0, k, rfl, rfl, rfl, hq1, hq2, HV, HM7, HR7, HB7, ⟨World.ownsRow_nil _ _ _ _⟩, by simp [Value.ownBlock], by simp [Value.ownBlock], by omega⟩
  case round =>
    clear HM7 HR7 HB7 HV
    obtain ⟨x, c6, y8, l, v, f, rfl, rfl, rfl, hc6, hc7, HV, HM20, HR20, HB20, HO, hv1, hv2, hzw⟩ := hrel
    obtain ⟨A, cA, rfl⟩ := ru_form HO.out
    by_cases hlt : 0 < c6
    · by_cases hx0 : 0 ≤ x
      · obtain ⟨f', z1, z2, hz, hl, hv⟩ := ru_go HV.out hlt hx0
        have HZ := Aside0.mk hz
        have HVn := Aside0.mk hv
        have hln := Aside0.mk hl
        clear hz hv hl HV
        go_wp2_with fail
        refine (hushref16_number.calls f' a0 x z1 z2 _ HZ.out).mono ?_
        rintro e w30 ⟨rfl, hd_⟩
        have hb_ := hd_.below
        have HR30 := Aside0.mk (blk_below HR20.out hb_)
        have HM30 := Aside0.mk (blk_below HM20.out hb_)
        have HB30 := Aside0.mk (below_step HB20.out hb_)
        have HO30 := Aside0.mk (own_move HO.out (fun k hk => hb_.block k (own_lt HO.out k hk)))
        have hz30 := hb_.size
        have kc30 : w30.cell? ⟨w.heap.size + 1, 10, none⟩ = some (.slice A l.length cA) := (blk_cell HM30.out 10).trans rfl
        have hlen : (l.map (fun x => Value.int .i64 x)).length = l.length := List.length_map ..
        clear hd_ hb_ HR20 HM20 HB20 HO HZ
        go_wp2_with (at_builtin; refine wpList_append_lies _ rfl _ _ _ rfl w.heap.size 3 i0 (.int .i64 0) 1 8 Try.underlying32 hi0 hz00 hz01 hz02 rfl (by omega) (.slice A l.length cA) l.length (l.map (fun x => Value.int .i64 x)) rfl (HO30.out.alloc _) ⟨w30.heap.size, 0, none⟩ 1 1 [.int .i64 z1] rfl rfl (World.news_of_block (cs := #[.int .i64 z1]) (t := 3) (fr := (0, 0)) (heap_alloc_new w30 _)) (by simp [Value.oneCell']) (by omega) (by have := hln.out; unfold maxLen; omega) (by have := hln.out; omega) (by have := HB30.out.size; simp; omega) (w30.heap.size + 1) (by simp) ?_)
        intro gg cap w11 hown1 hgrow hat hlg
        have HM11 := Aside0.mk (show w11.heap[w.heap.size + 1]? = some (.cells #[.int .i64 2, .string s, .int .i64 n, .string ⟨#[]⟩, .string ⟨#[]⟩, .int .i64 0, .int .i64 0, .int .i64 0, .int .i64 0, .int .i64 e_, .slice A l.length cA, .int .i64 0, .int .i64 0] 40 (0, 0)) from blk_grown (blk_alloc HM30.out _) hgrow (Ne.symm hv1))
        have kc11 : w11.cell? ⟨w.heap.size + 1, 10, none⟩ = some (.slice A l.length cA) := (blk_cell HM11.out 10).trans rfl
        have kf11 : w11.frozen? ⟨w.heap.size + 1, 10, none⟩ = false := blk_frozen HM11.out 10
        obtain ⟨w12, hw_⟩ : ∃ w', w' = w11.setCell ⟨w.heap.size + 1, 10, none⟩ (.slice (some ⟨gg, 0, none⟩) (l.length + 1) cap) := ⟨_, rfl⟩
        have hz12 : w30.heap.size + 1 ≤ w12.heap.size := by rw [hw_]; have := hgrow.size; simp at this ⊢; omega
        have HM12 := Aside0.mk (show w12.heap[w.heap.size + 1]? = some (.cells #[.int .i64 2, .string s, .int .i64 n, .string ⟨#[]⟩, .string ⟨#[]⟩, .int .i64 0, .int .i64 0, .int .i64 0, .int .i64 0, .int .i64 e_, .slice (some ⟨gg, 0, none⟩) (l.length + 1) cap, .int .i64 0, .int .i64 0] 40 (0, 0)) by rw [hw_]; exact blk_put HM11.out 10 _ rfl)
        have HR12 := Aside0.mk (show w12.heap[w.heap.size]? = some (.cells #[.int .i64 0, .string ⟨#[]⟩, .int .i64 0, .string ⟨#[]⟩, .string ⟨#[]⟩, .int .i64 0, .int .i64 0, .int .i64 0, .int .i64 0, .int .i64 0, .slice none 0 0, .int .i64 0, .int .i64 0] 40 (0, 0)) by rw [hw_, Below.heap_setCell _ _ _ _ (by simp)]; exact blk_grown (blk_alloc HR30.out _) hgrow (Ne.symm hv2))
        have HB12 := Aside0.mk (show Below w.heap.size w w12 by rw [hw_]; exact below_set ((below_alloc HB30.out _).grown hgrow (by have := HB30.out.size; simp; omega) (fun k hk => own_base HO30.out k hk)) (by omega))
        have hgm : gg ≠ w.heap.size + 1 ∧ gg ≠ w.heap.size := by
          rcases hat with h | h
          · exact ⟨fun e => hv1 (by rw [h, e]), fun e => hv2 (by rw [h, e])⟩
          · omega
        have HO12 := Aside0.mk (show w12.ownsRow w.heap.size 3 1 (.slice (some ⟨gg, 0, none⟩) (l.length + 1) cap) (l ++ [z1]).length ((l ++ [z1]).map (fun x => Value.int .i64 x)) by rw [hw_, List.length_append, List.map_append]; exact own_move hown1 (fun k hk => Below.heap_setCell _ _ _ _ (by simp [Value.ownBlock] at hk; subst hk; simp; exact hgm.1)))
        clear hown1 hgrow hat HR30 HM30 HB30 HO30 kc30
        go_upto_region 21 with (fail)
        rw [← hw_]
        clear hw_ HM11 kc11 kf11
        go_wp2_with fail
        go_roundw
        case rel => exact ⟨z2, c6 - 1, z1, l ++ [z1], .slice (some ⟨gg, 0, none⟩) (l.length + 1) cap, f', by go_num, by go_num, by go_num, by omega, by omega, HVn, HM12, HR12, HB12, HO12, by simp [Value.ownBlock]; exact hgm.1, by simp [Value.ownBlock]; exact hgm.2, by omega⟩
        case measure => simp [intOf]; omega
      · obtain ⟨rfl, rfl⟩ := ru_end HV.out (by omega)
        clear HV
        have HO20 := Aside0.mk (show Kd.R (Kd.int .i64) 3 wr w.heap.size (fun k => k ≠ w.heap.size ∧ k ≠ w.heap.size + 1) (.slice A lN.length cA) lN from Kd.R_of_own HO.out (fun k hk => ⟨fun e => hv2 (by rw [hk, e]), fun e => hv1 (by rw [hk, e])⟩))
        clear HO
        go_wp2_with fail
        refine (hushref16_number.calls k a0 (xN) ru x6 _ G6.out).mono ?_
        rintro e w21 ⟨rfl, hd_⟩
        have hb_ := hd_.below
        have HR21 := Aside0.mk (blk_below HR20.out hb_)
        have HM21 := Aside0.mk (blk_below HM20.out hb_)
        have HB21 := Aside0.mk (below_step HB20.out hb_)
        have hz21 := hb_.size
        have HO21 := Aside0.mk (Kd.R_below HO20.out hb_)
        clear hd_ hb_ HR20 HM20 HB20 G6
        have kcHM11 : w21.cell? ⟨w.heap.size + 1, 11, none⟩ = some (.int .i64 0) := (blk_cell HM21.out 11).trans rfl
        have kfHM11 : w21.frozen? ⟨w.heap.size + 1, 11, none⟩ = false := blk_frozen HM21.out 11
        go_wp2_with fail
        clear kcHM11 kfHM11
        obtain ⟨w22, hw_⟩ : ∃ w', w' = (w21.setCell ⟨w.heap.size + 1, 11, none⟩ (.int .i64 ru)) := ⟨_, rfl⟩
        rw [← hw_]
        have HM22 := Aside0.mk (show w22.heap[w.heap.size + 1]? = some (.cells #[.int .i64 2, .string s, .int .i64 n, .string ⟨#[]⟩, .string ⟨#[]⟩, .int .i64 0, .int .i64 0, .int .i64 0, .int .i64 0, .int .i64 e_, .slice A lN.length cA, .int .i64 ru, .int .i64 0] 40 (0, 0)) by rw [hw_]; exact (blk_put HM21.out 11 _ rfl))
        have HR22 := Aside0.mk (show w22.heap[w.heap.size]? = some (.cells #[.int .i64 0, .string ⟨#[]⟩, .int .i64 0, .string ⟨#[]⟩, .string ⟨#[]⟩, .int .i64 0, .int .i64 0, .int .i64 0, .int .i64 0, .int .i64 0, .slice none 0 0, .int .i64 0, .int .i64 0] 40 (0, 0)) by rw [hw_, Below.heap_setCell _ _ _ _ (by simp)]; exact HR21.out)
        have HB22 := Aside0.mk (show Below w.heap.size w w22 by rw [hw_]; exact (below_set HB21.out (by omega)))
        have hz22 : w21.heap.size ≤ w22.heap.size := by rw [hw_]; simp
        have HO22 := Aside0.mk (show Kd.R (Kd.int .i64) 3 w22 w.heap.size (fun k => k ≠ w.heap.size ∧ k ≠ w.heap.size + 1) (.slice A lN.length cA) lN by rw [hw_]; exact Kd.R_far HO21.out (fun _ h => h.2) _)
        clear HO21 hw_ HM21 HR21 HB21
        refine (hushref16_number.calls k a0 (x6) rd_ x7 _ G7.out).mono ?_
        rintro e w23 ⟨rfl, hd_⟩
        have hb_ := hd_.below
        have HR23 := Aside0.mk (blk_below HR22.out hb_)
        have HM23 := Aside0.mk (blk_below HM22.out hb_)
        have HB23 := Aside0.mk (below_step HB22.out hb_)
        have hz23 := hb_.size
        have HO23 := Aside0.mk (Kd.R_below HO22.out hb_)
        clear hd_ hb_ HR22 HM22 HB22 G7
        have kcHM12 : w23.cell? ⟨w.heap.size + 1, 12, none⟩ = some (.int .i64 0) := (blk_cell HM23.out 12).trans rfl
        have kfHM12 : w23.frozen? ⟨w.heap.size + 1, 12, none⟩ = false := blk_frozen HM23.out 12
        go_upto_region 26 with (fail)
        clear kcHM12 kfHM12
        obtain ⟨w24, hw_⟩ : ∃ w', w' = (w23.setCell ⟨w.heap.size + 1, 12, none⟩ (.int .i64 rd_)) := ⟨_, rfl⟩
        rw [← hw_]
        have HM24 := Aside0.mk (show w24.heap[w.heap.size + 1]? = some (.cells #[.int .i64 2, .string s, .int .i64 n, .string ⟨#[]⟩, .string ⟨#[]⟩, .int .i64 0, .int .i64 0, .int .i64 0, .int .i64 0, .int .i64 e_, .slice A lN.length cA, .int .i64 ru, .int .i64 rd_] 40 (0, 0)) by rw [hw_]; exact (blk_put HM23.out 12 _ rfl))
        have HR24 := Aside0.mk (show w24.heap[w.heap.size]? = some (.cells #[.int .i64 0, .string ⟨#[]⟩, .int .i64 0, .string ⟨#[]⟩, .string ⟨#[]⟩, .int .i64 0, .int .i64 0, .int .i64 0, .int .i64 0, .int .i64 0, .slice none 0 0, .int .i64 0, .int .i64 0] 40 (0, 0)) by rw [hw_, Below.heap_setCell _ _ _ _ (by simp)]; exact HR23.out)
        have HB24 := Aside0.mk (show Below w.heap.size w w24 by rw [hw_]; exact (below_set HB23.out (by omega)))
        have hz24 : w23.heap.size ≤ w24.heap.size := by rw [hw_]; simp
        have HO24 := Aside0.mk (show Kd.R (Kd.int .i64) 3 w24 w.heap.size (fun k => k ≠ w.heap.size ∧ k ≠ w.heap.size + 1) (.slice A lN.length cA) lN by rw [hw_]; exact Kd.R_far HO23.out (fun _ h => h.2) _)
        clear HO23 hw_ HM23 HR23 HB23
        have kcHM0 : w24.cell? ⟨w.heap.size + 1, 0, none⟩ = some (.int .i64 2) := (blk_cell HM24.out 0).trans rfl
        have kfHM0 : w24.frozen? ⟨w.heap.size + 1, 0, none⟩ = false := blk_frozen HM24.out 0
        have kcHM1 : w24.cell? ⟨w.heap.size + 1, 1, none⟩ = some (.string s) := (blk_cell HM24.out 1).trans rfl
        have kfHM1 : w24.frozen? ⟨w.heap.size + 1, 1, none⟩ = false := blk_frozen HM24.out 1
        have kcHM2 : w24.cell? ⟨w.heap.size + 1, 2, none⟩ = some (.int .i64 n) := (blk_cell HM24.out 2).trans rfl
        have kfHM2 : w24.frozen? ⟨w.heap.size + 1, 2, none⟩ = false := blk_frozen HM24.out 2
        have kcHM3 : w24.cell? ⟨w.heap.size + 1, 3, none⟩ = some (.string ⟨#[]⟩) := (blk_cell HM24.out 3).trans rfl
        have kfHM3 : w24.frozen? ⟨w.heap.size + 1, 3, none⟩ = false := blk_frozen HM24.out 3
        have kcHM4 : w24.cell? ⟨w.heap.size + 1, 4, none⟩ = some (.string ⟨#[]⟩) := (blk_cell HM24.out 4).trans rfl
        have kfHM4 : w24.frozen? ⟨w.heap.size + 1, 4, none⟩ = false := blk_frozen HM24.out 4
        have kcHM5 : w24.cell? ⟨w.heap.size + 1, 5, none⟩ = some (.int .i64 0) := (blk_cell HM24.out 5).trans rfl
        have kfHM5 : w24.frozen? ⟨w.heap.size + 1, 5, none⟩ = false := blk_frozen HM24.out 5
        have kcHM6 : w24.cell? ⟨w.heap.size + 1, 6, none⟩ = some (.int .i64 0) := (blk_cell HM24.out 6).trans rfl
        have kfHM6 : w24.frozen? ⟨w.heap.size + 1, 6, none⟩ = false := blk_frozen HM24.out 6
        have kcHM7 : w24.cell? ⟨w.heap.size + 1, 7, none⟩ = some (.int .i64 0) := (blk_cell HM24.out 7).trans rfl
        have kfHM7 : w24.frozen? ⟨w.heap.size + 1, 7, none⟩ = false := blk_frozen HM24.out 7
        have kcHM8 : w24.cell? ⟨w.heap.size + 1, 8, none⟩ = some (.int .i64 0) := (blk_cell HM24.out 8).trans rfl
        have kfHM8 : w24.frozen? ⟨w.heap.size + 1, 8, none⟩ = false := blk_frozen HM24.out 8
        have kcHM9 : w24.cell? ⟨w.heap.size + 1, 9, none⟩ = some (.int .i64 e_) := (blk_cell HM24.out 9).trans rfl
        have kfHM9 : w24.frozen? ⟨w.heap.size + 1, 9, none⟩ = false := blk_frozen HM24.out 9
        have kcHM10 : w24.cell? ⟨w.heap.size + 1, 10, none⟩ = some (.slice A lN.length cA) := (blk_cell HM24.out 10).trans rfl
        have kfHM10 : w24.frozen? ⟨w.heap.size + 1, 10, none⟩ = false := blk_frozen HM24.out 10
        have kcHM11 : w24.cell? ⟨w.heap.size + 1, 11, none⟩ = some (.int .i64 ru) := (blk_cell HM24.out 11).trans rfl
        have kfHM11 : w24.frozen? ⟨w.heap.size + 1, 11, none⟩ = false := blk_frozen HM24.out 11
        have kcHM12 : w24.cell? ⟨w.heap.size + 1, 12, none⟩ = some (.int .i64 rd_) := (blk_cell HM24.out 12).trans rfl
        have kfHM12 : w24.frozen? ⟨w.heap.size + 1, 12, none⟩ = false := blk_frozen HM24.out 12
        have kcHR0 : w24.cell? ⟨w.heap.size, 0, none⟩ = some (.int .i64 0) := (blk_cell HR24.out 0).trans rfl
        have kfHR0 : w24.frozen? ⟨w.heap.size, 0, none⟩ = false := blk_frozen HR24.out 0
        have kcHR1 : w24.cell? ⟨w.heap.size, 1, none⟩ = some (.string ⟨#[]⟩) := (blk_cell HR24.out 1).trans rfl
        have kfHR1 : w24.frozen? ⟨w.heap.size, 1, none⟩ = false := blk_frozen HR24.out 1
        have kcHR2 : w24.cell? ⟨w.heap.size, 2, none⟩ = some (.int .i64 0) := (blk_cell HR24.out 2).trans rfl
        have kfHR2 : w24.frozen? ⟨w.heap.size, 2, none⟩ = false := blk_frozen HR24.out 2
        have kcHR3 : w24.cell? ⟨w.heap.size, 3, none⟩ = some (.string ⟨#[]⟩) := (blk_cell HR24.out 3).trans rfl
        have kfHR3 : w24.frozen? ⟨w.heap.size, 3, none⟩ = false := blk_frozen HR24.out 3
        have kcHR4 : w24.cell? ⟨w.heap.size, 4, none⟩ = some (.string ⟨#[]⟩) := (blk_cell HR24.out 4).trans rfl
        have kfHR4 : w24.frozen? ⟨w.heap.size, 4, none⟩ = false := blk_frozen HR24.out 4
        have kcHR5 : w24.cell? ⟨w.heap.size, 5, none⟩ = some (.int .i64 0) := (blk_cell HR24.out 5).trans rfl
        have kfHR5 : w24.frozen? ⟨w.heap.size, 5, none⟩ = false := blk_frozen HR24.out 5
        have kcHR6 : w24.cell? ⟨w.heap.size, 6, none⟩ = some (.int .i64 0) := (blk_cell HR24.out 6).trans rfl
        have kfHR6 : w24.frozen? ⟨w.heap.size, 6, none⟩ = false := blk_frozen HR24.out 6
        have kcHR7 : w24.cell? ⟨w.heap.size, 7, none⟩ = some (.int .i64 0) := (blk_cell HR24.out 7).trans rfl
        have kfHR7 : w24.frozen? ⟨w.heap.size, 7, none⟩ = false := blk_frozen HR24.out 7
        have kcHR8 : w24.cell? ⟨w.heap.size, 8, none⟩ = some (.int .i64 0) := (blk_cell HR24.out 8).trans rfl
        have kfHR8 : w24.frozen? ⟨w.heap.size, 8, none⟩ = false := blk_frozen HR24.out 8
        have kcHR9 : w24.cell? ⟨w.heap.size, 9, none⟩ = some (.int .i64 0) := (blk_cell HR24.out 9).trans rfl
        have kfHR9 : w24.frozen? ⟨w.heap.size, 9, none⟩ = false := blk_frozen HR24.out 9
        have kcHR10 : w24.cell? ⟨w.heap.size, 10, none⟩ = some (.slice none 0 0) := (blk_cell HR24.out 10).trans rfl
        have kfHR10 : w24.frozen? ⟨w.heap.size, 10, none⟩ = false := blk_frozen HR24.out 10
        have kcHR11 : w24.cell? ⟨w.heap.size, 11, none⟩ = some (.int .i64 0) := (blk_cell HR24.out 11).trans rfl
        have kfHR11 : w24.frozen? ⟨w.heap.size, 11, none⟩ = false := blk_frozen HR24.out 11
        have kcHR12 : w24.cell? ⟨w.heap.size, 12, none⟩ = some (.int .i64 0) := (blk_cell HR24.out 12).trans rfl
        have kfHR12 : w24.frozen? ⟨w.heap.size, 12, none⟩ = false := blk_frozen HR24.out 12
        by_cases he : x7 = (a0.size : Int)
        · have he0 : (x7 == (a0.size : Int)) = true := beq_iff_eq.mpr he
          have he1 : (x7 != (a0.size : Int)) = false := bne_eq_false_iff_eq.mpr he
          have HV := Aside0.mk (show hushref16_Unpack.fin a0 x7 (2, s, n, ⟨#[]⟩, ⟨#[]⟩, 0, 0, 0, 0, e_, lN, ru, rd_, 0) = (2, s, n, ⟨#[]⟩, ⟨#[]⟩, 0, 0, 0, 0, e_, lN, ru, rd_, 0) by rw [hushref16_Unpack.fin, if_pos he])
          clear he
          go_wp2
          exact bodyPost_ret (v := .tuple #[.agg #[.int .i64 2, .string s, .int .i64 n, .string ⟨#[]⟩, .string ⟨#[]⟩, .int .i64 0, .int .i64 0, .int .i64 0, .int .i64 0, .int .i64 e_, .slice A lN.length cA, .int .i64 ru, .int .i64 rd_], .int .i64 0]) (by simp [results, Try.results15, go_sem, *]) rfl (ru_post_of HV.out ⟨_, rfl, Kd.R_mono (ok := fun k => k ≠ w.heap.size ∧ k ≠ w.heap.size + 1) (by (repeat (refine Kd.R_far ?_ (fun _ h => h.1) _)); exact HO24.out) (fun _ _ => trivial), (by (repeat (refine below_set ?_ (by omega))); exact HB24.out)⟩)
        · have he0 : (x7 == (a0.size : Int)) = false := beq_eq_false_iff_ne.mpr he
          have he1 : (x7 != (a0.size : Int)) = true := bne_iff_ne.mpr he
          have HV := Aside0.mk (show hushref16_Unpack.fin a0 x7 (2, s, n, ⟨#[]⟩, ⟨#[]⟩, 0, 0, 0, 0, e_, lN, ru, rd_, 0) = hushref16_Unpack.no 2 by rw [hushref16_Unpack.fin, if_neg he])
          clear he
          go_wp2
          exact bodyPost_ret (v := .tuple #[.agg #[.int .i64 0, .string ⟨#[]⟩, .int .i64 0, .string ⟨#[]⟩, .string ⟨#[]⟩, .int .i64 0, .int .i64 0, .int .i64 0, .int .i64 0, .int .i64 0, .slice none 0 0, .int .i64 0, .int .i64 0], .int .i64 2]) (by simp [results, Try.results15, go_sem, *]) rfl (ru_post_of HV.out ⟨_, rfl, Kd.R_nil _ _ _ _ _, (by (repeat (refine below_set ?_ (by omega))); exact HB24.out)⟩)

    · obtain ⟨rfl, rfl⟩ := ru_end HV.out (by omega)
      clear HV
      have HO20 := Aside0.mk (show Kd.R (Kd.int .i64) 3 wr w.heap.size (fun k => k ≠ w.heap.size ∧ k ≠ w.heap.size + 1) (.slice A lN.length cA) lN from Kd.R_of_own HO.out (fun k hk => ⟨fun e => hv2 (by rw [hk, e]), fun e => hv1 (by rw [hk, e])⟩))
      clear HO
      go_wp2_with fail
      refine (hushref16_number.calls k a0 (xN) ru x6 _ G6.out).mono ?_
      rintro e w21 ⟨rfl, hd_⟩
      have hb_ := hd_.below
      have HR21 := Aside0.mk (blk_below HR20.out hb_)
      have HM21 := Aside0.mk (blk_below HM20.out hb_)
      have HB21 := Aside0.mk (below_step HB20.out hb_)
      have hz21 := hb_.size
      have HO21 := Aside0.mk (Kd.R_below HO20.out hb_)
      clear hd_ hb_ HR20 HM20 HB20 G6
      have kcHM11 : w21.cell? ⟨w.heap.size + 1, 11, none⟩ = some (.int .i64 0) := (blk_cell HM21.out 11).trans rfl
      have kfHM11 : w21.frozen? ⟨w.heap.size + 1, 11, none⟩ = false := blk_frozen HM21.out 11
      go_wp2_with fail
      clear kcHM11 kfHM11
      obtain ⟨w22, hw_⟩ : ∃ w', w' = (w21.setCell ⟨w.heap.size + 1, 11, none⟩ (.int .i64 ru)) := ⟨_, rfl⟩
      rw [← hw_]
      have HM22 := Aside0.mk (show w22.heap[w.heap.size + 1]? = some (.cells #[.int .i64 2, .string s, .int .i64 n, .string ⟨#[]⟩, .string ⟨#[]⟩, .int .i64 0, .int .i64 0, .int .i64 0, .int .i64 0, .int .i64 e_, .slice A lN.length cA, .int .i64 ru, .int .i64 0] 40 (0, 0)) by rw [hw_]; exact (blk_put HM21.out 11 _ rfl))
      have HR22 := Aside0.mk (show w22.heap[w.heap.size]? = some (.cells #[.int .i64 0, .string ⟨#[]⟩, .int .i64 0, .string ⟨#[]⟩, .string ⟨#[]⟩, .int .i64 0, .int .i64 0, .int .i64 0, .int .i64 0, .int .i64 0, .slice none 0 0, .int .i64 0, .int .i64 0] 40 (0, 0)) by rw [hw_, Below.heap_setCell _ _ _ _ (by simp)]; exact HR21.out)
      have HB22 := Aside0.mk (show Below w.heap.size w w22 by rw [hw_]; exact (below_set HB21.out (by omega)))
      have hz22 : w21.heap.size ≤ w22.heap.size := by rw [hw_]; simp
      have HO22 := Aside0.mk (show Kd.R (Kd.int .i64) 3 w22 w.heap.size (fun k => k ≠ w.heap.size ∧ k ≠ w.heap.size + 1) (.slice A lN.length cA) lN by rw [hw_]; exact Kd.R_far HO21.out (fun _ h => h.2) _)
      clear HO21 hw_ HM21 HR21 HB21
      refine (hushref16_number.calls k a0 (x6) rd_ x7 _ G7.out).mono ?_
      rintro e w23 ⟨rfl, hd_⟩
      have hb_ := hd_.below
      have HR23 := Aside0.mk (blk_below HR22.out hb_)
      have HM23 := Aside0.mk (blk_below HM22.out hb_)
      have HB23 := Aside0.mk (below_step HB22.out hb_)
      have hz23 := hb_.size
      have HO23 := Aside0.mk (Kd.R_below HO22.out hb_)
      clear hd_ hb_ HR22 HM22 HB22 G7
      have kcHM12 : w23.cell? ⟨w.heap.size + 1, 12, none⟩ = some (.int .i64 0) := (blk_cell HM23.out 12).trans rfl
      have kfHM12 : w23.frozen? ⟨w.heap.size + 1, 12, none⟩ = false := blk_frozen HM23.out 12
      go_upto_region 26 with (fail)
      clear kcHM12 kfHM12
      obtain ⟨w24, hw_⟩ : ∃ w', w' = (w23.setCell ⟨w.heap.size + 1, 12, none⟩ (.int .i64 rd_)) := ⟨_, rfl⟩
      rw [← hw_]
      have HM24 := Aside0.mk (show w24.heap[w.heap.size + 1]? = some (.cells #[.int .i64 2, .string s, .int .i64 n, .string ⟨#[]⟩, .string ⟨#[]⟩, .int .i64 0, .int .i64 0, .int .i64 0, .int .i64 0, .int .i64 e_, .slice A lN.length cA, .int .i64 ru, .int .i64 rd_] 40 (0, 0)) by rw [hw_]; exact (blk_put HM23.out 12 _ rfl))
      have HR24 := Aside0.mk (show w24.heap[w.heap.size]? = some (.cells #[.int .i64 0, .string ⟨#[]⟩, .int .i64 0, .string ⟨#[]⟩, .string ⟨#[]⟩, .int .i64 0, .int .i64 0, .int .i64 0, .int .i64 0, .int .i64 0, .slice none 0 0, .int .i64 0, .int .i64 0] 40 (0, 0)) by rw [hw_, Below.heap_setCell _ _ _ _ (by simp)]; exact HR23.out)
      have HB24 := Aside0.mk (show Below w.heap.size w w24 by rw [hw_]; exact (below_set HB23.out (by omega)))
      have hz24 : w23.heap.size ≤ w24.heap.size := by rw [hw_]; simp
      have HO24 := Aside0.mk (show Kd.R (Kd.int .i64) 3 w24 w.heap.size (fun k => k ≠ w.heap.size ∧ k ≠ w.heap.size + 1) (.slice A lN.length cA) lN by rw [hw_]; exact Kd.R_far HO23.out (fun _ h => h.2) _)
      clear HO23 hw_ HM23 HR23 HB23
      have kcHM0 : w24.cell? ⟨w.heap.size + 1, 0, none⟩ = some (.int .i64 2) := (blk_cell HM24.out 0).trans rfl
      have kfHM0 : w24.frozen? ⟨w.heap.size + 1, 0, none⟩ = false := blk_frozen HM24.out 0
      have kcHM1 : w24.cell? ⟨w.heap.size + 1, 1, none⟩ = some (.string s) := (blk_cell HM24.out 1).trans rfl
      have kfHM1 : w24.frozen? ⟨w.heap.size + 1, 1, none⟩ = false := blk_frozen HM24.out 1
      have kcHM2 : w24.cell? ⟨w.heap.size + 1, 2, none⟩ = some (.int .i64 n) := (blk_cell HM24.out 2).trans rfl
      have kfHM2 : w24.frozen? ⟨w.heap.size + 1, 2, none⟩ = false := blk_frozen HM24.out 2
      have kcHM3 : w24.cell? ⟨w.heap.size + 1, 3, none⟩ = some (.string ⟨#[]⟩) := (blk_cell HM24.out 3).trans rfl
      have kfHM3 : w24.frozen? ⟨w.heap.size + 1, 3, none⟩ = false := blk_frozen HM24.out 3
      have kcHM4 : w24.cell? ⟨w.heap.size + 1, 4, none⟩ = some (.string ⟨#[]⟩) := (blk_cell HM24.out 4).trans rfl
      have kfHM4 : w24.frozen? ⟨w.heap.size + 1, 4, none⟩ = false := blk_frozen HM24.out 4
      have kcHM5 : w24.cell? ⟨w.heap.size + 1, 5, none⟩ = some (.int .i64 0) := (blk_cell HM24.out 5).trans rfl
      have kfHM5 : w24.frozen? ⟨w.heap.size + 1, 5, none⟩ = false := blk_frozen HM24.out 5
      have kcHM6 : w24.cell? ⟨w.heap.size + 1, 6, none⟩ = some (.int .i64 0) := (blk_cell HM24.out 6).trans rfl
      have kfHM6 : w24.frozen? ⟨w.heap.size + 1, 6, none⟩ = false := blk_frozen HM24.out 6
      have kcHM7 : w24.cell? ⟨w.heap.size + 1, 7, none⟩ = some (.int .i64 0) := (blk_cell HM24.out 7).trans rfl
      have kfHM7 : w24.frozen? ⟨w.heap.size + 1, 7, none⟩ = false := blk_frozen HM24.out 7
      have kcHM8 : w24.cell? ⟨w.heap.size + 1, 8, none⟩ = some (.int .i64 0) := (blk_cell HM24.out 8).trans rfl
      have kfHM8 : w24.frozen? ⟨w.heap.size + 1, 8, none⟩ = false := blk_frozen HM24.out 8
      have kcHM9 : w24.cell? ⟨w.heap.size + 1, 9, none⟩ = some (.int .i64 e_) := (blk_cell HM24.out 9).trans rfl
      have kfHM9 : w24.frozen? ⟨w.heap.size + 1, 9, none⟩ = false := blk_frozen HM24.out 9
      have kcHM10 : w24.cell? ⟨w.heap.size + 1, 10, none⟩ = some (.slice A lN.length cA) := (blk_cell HM24.out 10).trans rfl
      have kfHM10 : w24.frozen? ⟨w.heap.size + 1, 10, none⟩ = false := blk_frozen HM24.out 10
      have kcHM11 : w24.cell? ⟨w.heap.size + 1, 11, none⟩ = some (.int .i64 ru) := (blk_cell HM24.out 11).trans rfl
      have kfHM11 : w24.frozen? ⟨w.heap.size + 1, 11, none⟩ = false := blk_frozen HM24.out 11
      have kcHM12 : w24.cell? ⟨w.heap.size + 1, 12, none⟩ = some (.int .i64 rd_) := (blk_cell HM24.out 12).trans rfl
      have kfHM12 : w24.frozen? ⟨w.heap.size + 1, 12, none⟩ = false := blk_frozen HM24.out 12
      have kcHR0 : w24.cell? ⟨w.heap.size, 0, none⟩ = some (.int .i64 0) := (blk_cell HR24.out 0).trans rfl
      have kfHR0 : w24.frozen? ⟨w.heap.size, 0, none⟩ = false := blk_frozen HR24.out 0
      have kcHR1 : w24.cell? ⟨w.heap.size, 1, none⟩ = some (.string ⟨#[]⟩) := (blk_cell HR24.out 1).trans rfl
      have kfHR1 : w24.frozen? ⟨w.heap.size, 1, none⟩ = false := blk_frozen HR24.out 1
      have kcHR2 : w24.cell? ⟨w.heap.size, 2, none⟩ = some (.int .i64 0) := (blk_cell HR24.out 2).trans rfl
      have kfHR2 : w24.frozen? ⟨w.heap.size, 2, none⟩ = false := blk_frozen HR24.out 2
      have kcHR3 : w24.cell? ⟨w.heap.size, 3, none⟩ = some (.string ⟨#[]⟩) := (blk_cell HR24.out 3).trans rfl
      have kfHR3 : w24.frozen? ⟨w.heap.size, 3, none⟩ = false := blk_frozen HR24.out 3
      have kcHR4 : w24.cell? ⟨w.heap.size, 4, none⟩ = some (.string ⟨#[]⟩) := (blk_cell HR24.out 4).trans rfl
      have kfHR4 : w24.frozen? ⟨w.heap.size, 4, none⟩ = false := blk_frozen HR24.out 4
      have kcHR5 : w24.cell? ⟨w.heap.size, 5, none⟩ = some (.int .i64 0) := (blk_cell HR24.out 5).trans rfl
      have kfHR5 : w24.frozen? ⟨w.heap.size, 5, none⟩ = false := blk_frozen HR24.out 5
      have kcHR6 : w24.cell? ⟨w.heap.size, 6, none⟩ = some (.int .i64 0) := (blk_cell HR24.out 6).trans rfl
      have kfHR6 : w24.frozen? ⟨w.heap.size, 6, none⟩ = false := blk_frozen HR24.out 6
      have kcHR7 : w24.cell? ⟨w.heap.size, 7, none⟩ = some (.int .i64 0) := (blk_cell HR24.out 7).trans rfl
      have kfHR7 : w24.frozen? ⟨w.heap.size, 7, none⟩ = false := blk_frozen HR24.out 7
      have kcHR8 : w24.cell? ⟨w.heap.size, 8, none⟩ = some (.int .i64 0) := (blk_cell HR24.out 8).trans rfl
      have kfHR8 : w24.frozen? ⟨w.heap.size, 8, none⟩ = false := blk_frozen HR24.out 8
      have kcHR9 : w24.cell? ⟨w.heap.size, 9, none⟩ = some (.int .i64 0) := (blk_cell HR24.out 9).trans rfl
      have kfHR9 : w24.frozen? ⟨w.heap.size, 9, none⟩ = false := blk_frozen HR24.out 9
      have kcHR10 : w24.cell? ⟨w.heap.size, 10, none⟩ = some (.slice none 0 0) := (blk_cell HR24.out 10).trans rfl
      have kfHR10 : w24.frozen? ⟨w.heap.size, 10, none⟩ = false := blk_frozen HR24.out 10
      have kcHR11 : w24.cell? ⟨w.heap.size, 11, none⟩ = some (.int .i64 0) := (blk_cell HR24.out 11).trans rfl
      have kfHR11 : w24.frozen? ⟨w.heap.size, 11, none⟩ = false := blk_frozen HR24.out 11
      have kcHR12 : w24.cell? ⟨w.heap.size, 12, none⟩ = some (.int .i64 0) := (blk_cell HR24.out 12).trans rfl
      have kfHR12 : w24.frozen? ⟨w.heap.size, 12, none⟩ = false := blk_frozen HR24.out 12
      by_cases he : x7 = (a0.size : Int)
      · have he0 : (x7 == (a0.size : Int)) = true := beq_iff_eq.mpr he
        have he1 : (x7 != (a0.size : Int)) = false := bne_eq_false_iff_eq.mpr he
        have HV := Aside0.mk (show hushref16_Unpack.fin a0 x7 (2, s, n, ⟨#[]⟩, ⟨#[]⟩, 0, 0, 0, 0, e_, lN, ru, rd_, 0) = (2, s, n, ⟨#[]⟩, ⟨#[]⟩, 0, 0, 0, 0, e_, lN, ru, rd_, 0) by rw [hushref16_Unpack.fin, if_pos he])
        clear he
        go_wp2
        exact bodyPost_ret (v := .tuple #[.agg #[.int .i64 2, .string s, .int .i64 n, .string ⟨#[]⟩, .string ⟨#[]⟩, .int .i64 0, .int .i64 0, .int .i64 0, .int .i64 0, .int .i64 e_, .slice A lN.length cA, .int .i64 ru, .int .i64 rd_], .int .i64 0]) (by simp [results, Try.results15, go_sem, *]) rfl (ru_post_of HV.out ⟨_, rfl, Kd.R_mono (ok := fun k => k ≠ w.heap.size ∧ k ≠ w.heap.size + 1) (by (repeat (refine Kd.R_far ?_ (fun _ h => h.1) _)); exact HO24.out) (fun _ _ => trivial), (by (repeat (refine below_set ?_ (by omega))); exact HB24.out)⟩)
      · have he0 : (x7 == (a0.size : Int)) = false := beq_eq_false_iff_ne.mpr he
        have he1 : (x7 != (a0.size : Int)) = true := bne_iff_ne.mpr he
        have HV := Aside0.mk (show hushref16_Unpack.fin a0 x7 (2, s, n, ⟨#[]⟩, ⟨#[]⟩, 0, 0, 0, 0, e_, lN, ru, rd_, 0) = hushref16_Unpack.no 2 by rw [hushref16_Unpack.fin, if_neg he])
        clear he
        go_wp2
        exact bodyPost_ret (v := .tuple #[.agg #[.int .i64 0, .string ⟨#[]⟩, .int .i64 0, .string ⟨#[]⟩, .string ⟨#[]⟩, .int .i64 0, .int .i64 0, .int .i64 0, .int .i64 0, .int .i64 0, .slice none 0 0, .int .i64 0, .int .i64 0], .int .i64 2]) (by simp [results, Try.results15, go_sem, *]) rfl (ru_post_of HV.out ⟨_, rfl, Kd.R_nil _ _ _ _ _, (by (repeat (refine below_set ?_ (by omega))); exact HB24.out)⟩)

theorem ru_all (k : Nat) (a0 : ByteArray) (r : RunM) (w : World) (h : hushref16_Unpack.f k a0 = some r) : Calls Try.prog 15 #[.string a0] w (ru_post w r) := by
  unfold hushref16_Unpack.f at h
  by_cases hsz : (a0.size : Int) > 65536
  · rw [if_pos hsz] at h
    cases h
    exact ru_big a0 hsz w
  · rw [if_neg hsz] at h
    by_cases h0 : (a0.size : Int) = 0
    · rw [if_pos h0] at h
      cases h
      exact ru_none a0 h0 w
    · rw [if_neg h0] at h
      by_cases hc1 : bt a0 0 = 1
      · rw [if_pos hc1] at h
        obtain ⟨⟨s, x1⟩, g1, h⟩ := Option.bind_eq_some_iff.mp h
        obtain ⟨⟨n, x2⟩, g2, h⟩ := Option.bind_eq_some_iff.mp h
        obtain ⟨⟨p, x3⟩, g3, h⟩ := Option.bind_eq_some_iff.mp h
        obtain ⟨⟨t, x4⟩, g4, h⟩ := Option.bind_eq_some_iff.mp h
        obtain ⟨⟨u, x5⟩, g5, h⟩ := Option.bind_eq_some_iff.mp h
        obtain ⟨⟨v, x6⟩, g6, h⟩ := Option.bind_eq_some_iff.mp h
        obtain ⟨⟨lo, x7⟩, g7, h⟩ := Option.bind_eq_some_iff.mp h
        obtain ⟨⟨hi, x8⟩, g8, h⟩ := Option.bind_eq_some_iff.mp h
        dsimp only at g1 g2 g3 g4 g5 g6 g7 g8 h
        obtain rfl := Option.some.inj h
        exact ru_c1 k a0 w hsz h0 hc1 s x1 g1 n x2 g2 p x3 g3 t x4 g4 u x5 g5 v x6 g6 lo x7 g7 hi x8 g8
      · rw [if_neg hc1] at h
        by_cases hc2 : bt a0 0 = 2
        · rw [if_pos hc2] at h
          obtain ⟨⟨s, x1⟩, g1, h⟩ := Option.bind_eq_some_iff.mp h
          obtain ⟨⟨n, x2⟩, g2, h⟩ := Option.bind_eq_some_iff.mp h
          obtain ⟨⟨e_, x3⟩, g3, h⟩ := Option.bind_eq_some_iff.mp h
          obtain ⟨⟨q, x4⟩, g4, h⟩ := Option.bind_eq_some_iff.mp h
          dsimp only at g1 g2 g3 g4 h
          by_cases hq : 0 ≤ q ∧ q < 18446744073709551616
          · rw [if_pos hq] at h
            obtain ⟨⟨lN, xN⟩, hV, h⟩ := Option.bind_eq_some_iff.mp h
            obtain ⟨⟨u, x6⟩, g6, h⟩ := Option.bind_eq_some_iff.mp h
            obtain ⟨⟨v, x7⟩, g7, h⟩ := Option.bind_eq_some_iff.mp h
            dsimp only at hV g6 g7 h
            obtain rfl := Option.some.inj h
            exact ru_c2 k a0 w hsz h0 hc2 s x1 g1 n x2 g2 e_ x3 g3 q x4 g4 hq.1 hq.2 lN xN hV u x6 g6 v x7 g7
          · rw [if_neg hq] at h
            cases h
        · rw [if_neg hc2] at h
          obtain rfl := Option.some.inj h
          exact ru_kind a0 _ rfl hsz h0 hc1 hc2 w
theorem hushref16_Unpack.calls (k : Nat) (a0 : ByteArray) (r1 : Int) (r2 : ByteArray) (r3 : Int) (r4 : ByteArray) (r5 : ByteArray) (r6 : Int) (r7 : Int) (r8 : Int) (r9 : Int) (r10 : Int) (r11 : List Int) (r12 : Int) (r13 : Int) (r14 : Int) (w : World) (h : hushref16_Unpack.f k a0 = some (r1, r2, r3, r4, r5, r6, r7, r8, r9, r10, r11, r12, r13, r14)) :
    Calls Try.prog 15 #[.string a0] w fun e w' => ∃ v10_ : Value, e = .returned (.tuple #[.agg #[.int .i64 r1, .string r2, .int .i64 r3, .string r4, .string r5, .int .i64 r6, .int .i64 r7, .int .i64 r8, .int .i64 r9, .int .i64 r10, v10_, .int .i64 r12, .int .i64 r13], .int .i64 r14]) ∧ Kd.R (Kd.int .i64) 3 w' w.heap.size (fun _ => True) v10_ r11 ∧ Below w.heap.size w w' := ru_all k a0 _ w h


end Go.Proofs.Ytdfeidpkdbleaaa.PC

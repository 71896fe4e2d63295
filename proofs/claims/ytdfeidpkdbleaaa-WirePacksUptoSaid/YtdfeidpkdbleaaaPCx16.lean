/- Functions of the translated program as Lean functions, and what their calls come to: written by this session's own program (wip/xprint.py) over the kit's print. Conditions stand in each theorem. -/
import Derived.Test.YtdfeidpkdbleaaaPCx0
import Derived.Test.YtdfeidpkdbleaaaPCx14
import Derived.Test.YtdfeidpkdbleaaaPCx15
namespace Go.Proofs.Ytdfeidpkdbleaaa.PC
open Go.RowKit Go.Proofs.YtdfeidpkdbleaaaW.PrintWords Go.Proofs.YtdfeidpkdbleaaaW.PrintLast Go.Proofs.YtdfeidpkdbleaaaW.PrintMore
attribute [local go_sem] max2_int min2_int max_two min_two max_three min_three max_four min_four   -- for this text's walks alone
set_option linter.unusedVariables false
set_option linter.unusedSimpArgs false

/-! ### wire_Unpack: function 14 -/
abbrev UnM := Int × ByteArray × Int × ByteArray × ByteArray × Int × Int × Int × Int × Int × List Int × Int × Int × Int
def wire_Unpack.no (e : Int) : UnM := (0, ⟨#[]⟩, 0, ⟨#[]⟩, ⟨#[]⟩, 0, 0, 0, 0, 0, [], 0, 0, e)
def wire_Unpack.finv (b : ByteArray) (d : Bool) (m : UnM) : UnM := if d = true then wire_Unpack.no 2 else if b.toList = [] then m else wire_Unpack.no 2
def wire_Unpack.fin (b : ByteArray) (d : Bool) (m : UnM) : Option UnM := if d = true then some (wire_Unpack.no 2) else if b.toList = [] then some m else some (wire_Unpack.no 2)
def wire_Unpack.l0 : Nat → Int → ByteArray → Bool → List Int → Option (List Int × ByteArray × Bool)
  | 0, _, _, _, _ => none
  | k + 1, x0, x1, x2, x3 => if x0 > 0 then (if x2 = true then some (x3, x1, x2) else (wire_unpacker_number.f k x1 x2).bind fun z => if x3.length < 17592186044416 then wire_Unpack.l0 k (x0 - 1) z.2.1 z.2.2 (x3 ++ [z.1]) else none) else some (x3, x1, x2)
def wire_Unpack.f (k : Nat) (a0 : ByteArray) : Option UnM := if (a0.size : Int) > 65536 then some (wire_Unpack.no 4) else (wire_unpacker_byte.f a0 false).bind fun c => (wire_unpacker_text.f k c.2.1 c.2.2).bind fun s => (wire_unpacker_number.f k s.2.1 s.2.2).bind fun n => if c.1 = 1 then (wire_unpacker_text.f k n.2.1 n.2.2).bind fun p => (wire_unpacker_text.f k p.2.1 p.2.2).bind fun t => (wire_unpacker_ratio.f k t.2.1 t.2.2).bind fun r => (wire_unpacker_number.f k r.2.2.1 r.2.2.2).bind fun lo => (wire_unpacker_number.f k lo.2.1 lo.2.2).bind fun hi => wire_Unpack.fin hi.2.1 hi.2.2 (c.1, s.1, n.1, p.1, t.1, r.1, r.2.1, lo.1, hi.1, 0, [], 0, 0, 0) else if c.1 = 2 then (wire_unpacker_number.f k n.2.1 n.2.2).bind fun e => (wire_unpacker_count.f k e.2.1 e.2.2).bind fun q => if 0 ≤ q.1 ∧ q.1 < 18446744073709551616 then (wire_Unpack.l0 k q.1 q.2.1 q.2.2 []).bind fun v => (wire_unpacker_ratio.f k v.2.1 v.2.2).bind fun r => wire_Unpack.fin r.2.2.1 r.2.2.2 (c.1, s.1, n.1, ⟨#[]⟩, ⟨#[]⟩, 0, 0, 0, 0, e.1, v.1, r.1, r.2.1, 0) else none else wire_Unpack.fin n.2.1 true (wire_Unpack.no 0)
theorem un_byte_rng {b b' : ByteArray} {d d' : Bool} {c : Int} (h : wire_unpacker_byte.f b d = some (c, b', d')) : 0 ≤ c ∧ c < 256 := by
  unfold wire_unpacker_byte.f at h
  split at h
  · injection h with h
    injection h with h _
    omega
  · split at h
    · split at h
      · injection h with h
        injection h with h _
        rw [← h]
        unfold bt
        split
        · rename_i hx
          have := (b[(0 : Int).toNat]'hx).toNat_lt
          exact ⟨Int.natCast_nonneg _, by omega⟩
        · omega
      · cases h
    · cases h
def un_post (w : World) (m : UnM) (e : Ending) (w' : World) : Prop := ∃ v10_ : Value, e = .returned (.tuple #[.agg #[.int .i64 m.1, .string m.2.1, .int .i64 m.2.2.1, .string m.2.2.2.1, .string m.2.2.2.2.1, .int .i64 m.2.2.2.2.2.1, .int .i64 m.2.2.2.2.2.2.1, .int .i64 m.2.2.2.2.2.2.2.1, .int .i64 m.2.2.2.2.2.2.2.2.1, .int .i64 m.2.2.2.2.2.2.2.2.2.1, v10_, .int .i64 m.2.2.2.2.2.2.2.2.2.2.2.1, .int .i64 m.2.2.2.2.2.2.2.2.2.2.2.2.1], .int .i64 m.2.2.2.2.2.2.2.2.2.2.2.2.2]) ∧ Kd.R (Kd.int .i64) 3 w' w.heap.size (fun _ => True) v10_ m.2.2.2.2.2.2.2.2.2.2.1 ∧ Below w.heap.size w w'
theorem un_post_of {w : World} {m m' : UnM} {e : Ending} {w' : World} (h : m = m') (k : un_post w m' e w') : un_post w m e w' := by subst h; exact k
set_option maxHeartbeats 4000000 in
set_option maxRecDepth 100000 in
theorem un_big (a0 : ByteArray) (h : (a0.size : Int) > 65536) (w : World) : Calls Try.prog 14 #[.string a0] w (un_post w (wire_Unpack.no 4)) := by
  have u40 := Try.underlying40
  have h' : (65536 : Int) < (a0.size : Int) := h
  clear h
  go_enter Try.func14, Try.ntmps14
  go_wp2
  exact bodyPost_ret (v := .tuple #[.agg #[.int .i64 0, .string ⟨#[]⟩, .int .i64 0, .string ⟨#[]⟩, .string ⟨#[]⟩, .int .i64 0, .int .i64 0, .int .i64 0, .int .i64 0, .int .i64 0, .slice none 0 0, .int .i64 0, .int .i64 0], .int .i64 4]) (by simp [results, Try.results14, go_sem]) rfl ⟨_, rfl, Kd.R_nil _ _ _ _ _, by repeat (first | exact below_alloc (Below.refl _ _) _ | refine below_set ?_ (Nat.le_refl _))⟩
set_option maxHeartbeats 16000000 in
set_option maxRecDepth 100000 in
theorem un_c1 (k : Nat) (a0 : ByteArray) (w : World) (hsz : ¬ (a0.size : Int) > 65536) (c : Int) (b1 : ByteArray) (d1 : Bool) (h1 : wire_unpacker_byte.f a0 false = some (c, b1, d1)) (s : ByteArray) (b2 : ByteArray) (d2 : Bool) (h2 : wire_unpacker_text.f k b1 d1 = some (s, b2, d2)) (n : Int) (b3 : ByteArray) (d3 : Bool) (h3 : wire_unpacker_number.f k b2 d2 = some (n, b3, d3)) (hc : c = 1) (p b4 : ByteArray) (d4 : Bool) (h4 : wire_unpacker_text.f k b3 d3 = some (p, b4, d4)) (t b5 : ByteArray) (d5 : Bool) (h5 : wire_unpacker_text.f k b4 d4 = some (t, b5, d5)) (ru rd_ : Int) (b6 : ByteArray) (d6 : Bool) (h6 : wire_unpacker_ratio.f k b5 d5 = some (ru, rd_, b6, d6)) (lo : Int) (b7 : ByteArray) (d7 : Bool) (h7 : wire_unpacker_number.f k b6 d6 = some (lo, b7, d7)) (hi : Int) (b8 : ByteArray) (d8 : Bool) (h8 : wire_unpacker_number.f k b7 d7 = some (hi, b8, d8)) :
    Calls Try.prog 14 #[.string a0] w (un_post w (wire_Unpack.finv b8 d8 (1, s, n, p, t, ru, rd_, lo, hi, 0, [], 0, 0, 0))) := by
  have u40 := Try.underlying40
  have u75 := Try.underlying75
  have u73 := Try.underlying73
  have u38 := Try.underlying38
  have hsz' : decide ((65536 : Int) < (a0.size : Int)) = false := decide_eq_false (by omega)
  clear hsz
  obtain ⟨hc1, hc2⟩ := un_byte_rng h1
  have H1 := Aside0.mk h1
  have H2 := Aside0.mk h2
  have H3 := Aside0.mk h3
  have HC := Aside0.mk hc
  have H4 := Aside0.mk h4
  have H5 := Aside0.mk h5
  have H6 := Aside0.mk h6
  have H7 := Aside0.mk h7
  have H8 := Aside0.mk h8
  clear h1 h2 h3 hc h4 h5 h6 h7 h8
  go_enter Try.func14, Try.ntmps14
  go_wp2_with fail
  obtain ⟨w0, hw0⟩ : ∃ w0, w0 = (w.alloc (.cells #[.int .i64 0, .string ⟨#[]⟩, .int .i64 0, .string ⟨#[]⟩, .string ⟨#[]⟩, .int .i64 0, .int .i64 0, .int .i64 0, .int .i64 0, .int .i64 0, .slice none 0 0, .int .i64 0, .int .i64 0] 40)).alloc (.cells #[.string a0, .bool false] 75) := ⟨_, rfl⟩
  rw [← hw0]
  have HR0 := Aside0.mk (show w0.heap[w.heap.size]? = some (.cells #[.int .i64 0, .string ⟨#[]⟩, .int .i64 0, .string ⟨#[]⟩, .string ⟨#[]⟩, .int .i64 0, .int .i64 0, .int .i64 0, .int .i64 0, .int .i64 0, .slice none 0 0, .int .i64 0, .int .i64 0] 40 (0, 0)) by rw [hw0]; exact blk_alloc (blk_new w _) _)
  have HU0 := Aside0.mk (show IsS75 w w0 (w.heap.size + 1) a0 false from ⟨by rw [hw0]; have := blk_new (w.alloc (.cells #[.int .i64 0, .string ⟨#[]⟩, .int .i64 0, .string ⟨#[]⟩, .string ⟨#[]⟩, .int .i64 0, .int .i64 0, .int .i64 0, .int .i64 0, .int .i64 0, .slice none 0 0, .int .i64 0, .int .i64 0] 40)) (.cells #[.string a0, .bool false] 75); rw [World.size_alloc] at this; exact this, by omega⟩)
  have HB0 := Aside0.mk (show Below w.heap.size w w0 by rw [hw0]; exact below_alloc (below_alloc (Below.refl _ _) _) _)
  have hz0 : w0.heap.size = w.heap.size + 2 := by rw [hw0]; simp
  clear hw0
  refine (wire_unpacker_byte.calls _ _ _ c b1 d1 w _ HU0.out HB0.out H1.out).mono ?_
  rintro e w1 ⟨rfl, hu_, hb_, hk_⟩
  have HU1 := Aside0.mk hu_
  have HB1 := Aside0.mk hb_
  have HR1 := Aside0.mk (hk_.blk HR0.out (by omega) (by simp))
  have hz1 := hk_.1
  clear hu_ hb_ hk_ HU0 HB0 HR0 H1
  go_wp2_with fail
  obtain ⟨w2, hw_⟩ : ∃ w', w' = w1.alloc (.cells #[.int .i64 c, .string ⟨#[]⟩, .int .i64 0, .string ⟨#[]⟩, .string ⟨#[]⟩, .int .i64 0, .int .i64 0, .int .i64 0, .int .i64 0, .int .i64 0, .slice none 0 0, .int .i64 0, .int .i64 0] 40) := ⟨_, rfl⟩
  rw [← hw_]
  have HM2 := Aside0.mk (show w2.heap[w1.heap.size]? = some (.cells #[.int .i64 c, .string ⟨#[]⟩, .int .i64 0, .string ⟨#[]⟩, .string ⟨#[]⟩, .int .i64 0, .int .i64 0, .int .i64 0, .int .i64 0, .int .i64 0, .slice none 0 0, .int .i64 0, .int .i64 0] 40 (0, 0)) by rw [hw_]; exact blk_new w1 _)
  have HR2 := Aside0.mk (show w2.heap[w.heap.size]? = some (.cells #[.int .i64 0, .string ⟨#[]⟩, .int .i64 0, .string ⟨#[]⟩, .string ⟨#[]⟩, .int .i64 0, .int .i64 0, .int .i64 0, .int .i64 0, .int .i64 0, .slice none 0 0, .int .i64 0, .int .i64 0] 40 (0, 0)) by rw [hw_]; exact blk_alloc HR1.out _)
  have HU2 := Aside0.mk (show IsS75 w w2 (w.heap.size + 1) b1 d1 from ⟨by rw [hw_]; exact blk_alloc HU1.out.1 _, by omega⟩)
  have HB2 := Aside0.mk (show Below w.heap.size w w2 by rw [hw_]; exact below_alloc HB1.out _)
  have hz2 : w2.heap.size = w1.heap.size + 1 := by rw [hw_]; simp
  clear hw_ HU1 HB1 HR1
  generalize w1.heap.size = m at *
  refine (wire_unpacker_text.calls k _ _ _ s b2 d2 w _ HU2.out HB2.out H2.out).mono ?_
  rintro e w3 ⟨rfl, hu_, hb_, hk_⟩
  have HU3 := Aside0.mk hu_
  have HB3 := Aside0.mk hb_
  have HR3 := Aside0.mk (hk_.blk HR2.out (by omega) (by simp))
  have HM3 := Aside0.mk (hk_.blk HM2.out (by omega) (by simp))
  have hz3 := hk_.1
  clear hu_ hb_ hk_ HU2 HB2 HR2 HM2 H2
  go_wp2_with fail
  refine (wire_unpacker_number.calls k _ _ _ n b3 d3 w _ HU3.out HB3.out H3.out).mono ?_
  rintro e w4 ⟨rfl, hu_, hb_, hk_⟩
  have HU4 := Aside0.mk hu_
  have HB4 := Aside0.mk hb_
  have HR4 := Aside0.mk (hk_.blk HR3.out (by omega) (by simp))
  have HM4 := Aside0.mk (hk_.blk HM3.out (by omega) (by simp))
  have hz4 := hk_.1
  clear hu_ hb_ hk_ HU3 HB3 HR3 HM3 H3
  have kcHM0 : w4.cell? ⟨m, 0, none⟩ = some (.int .i64 c) := (blk_cell HM4.out 0).trans rfl
  have kfHM0 : w4.frozen? ⟨m, 0, none⟩ = false := blk_frozen HM4.out 0
  have kcHM1 : w4.cell? ⟨m, 1, none⟩ = some (.string ⟨#[]⟩) := (blk_cell HM4.out 1).trans rfl
  have kfHM1 : w4.frozen? ⟨m, 1, none⟩ = false := blk_frozen HM4.out 1
  have kcHM2 : w4.cell? ⟨m, 2, none⟩ = some (.int .i64 0) := (blk_cell HM4.out 2).trans rfl
  have kfHM2 : w4.frozen? ⟨m, 2, none⟩ = false := blk_frozen HM4.out 2
  have hc := HC.out
  subst hc
  clear HC
  go_wp2_with fail
  clear kcHM0 kfHM0 kcHM1 kfHM1 kcHM2 kfHM2
  obtain ⟨w5, hw_⟩ : ∃ w', w' = ((w4.setCell ⟨m, 1, none⟩ (.string s)).setCell ⟨m, 2, none⟩ (.int .i64 n)) := ⟨_, rfl⟩
  rw [← hw_]
  have HM5 := Aside0.mk (show w5.heap[m]? = some (.cells #[.int .i64 1, .string s, .int .i64 n, .string ⟨#[]⟩, .string ⟨#[]⟩, .int .i64 0, .int .i64 0, .int .i64 0, .int .i64 0, .int .i64 0, .slice none 0 0, .int .i64 0, .int .i64 0] 40 (0, 0)) by rw [hw_]; exact (blk_put (blk_put HM4.out 1 _ rfl) 2 _ rfl))
  have HR5 := Aside0.mk (show w5.heap[w.heap.size]? = some (.cells #[.int .i64 0, .string ⟨#[]⟩, .int .i64 0, .string ⟨#[]⟩, .string ⟨#[]⟩, .int .i64 0, .int .i64 0, .int .i64 0, .int .i64 0, .int .i64 0, .slice none 0 0, .int .i64 0, .int .i64 0] 40 (0, 0)) by rw [hw_, Below.heap_setCell _ _ _ _ (by simp; omega), Below.heap_setCell _ _ _ _ (by simp; omega)]; exact HR4.out)
  have HU5 := Aside0.mk (show IsS75 w w5 (w.heap.size + 1) _ _ from ⟨by rw [hw_, Below.heap_setCell _ _ _ _ (by simp; omega), Below.heap_setCell _ _ _ _ (by simp; omega)]; exact HU4.out.1, by omega⟩)
  have HB5 := Aside0.mk (show Below w.heap.size w w5 by rw [hw_]; exact (below_set (below_set HB4.out (by omega)) (by omega)))
  have hz5 : w4.heap.size ≤ w5.heap.size := by rw [hw_]; simp
  clear hw_ HM4 HR4 HU4 HB4
  refine (wire_unpacker_text.calls k _ _ _ p b4 d4 w _ HU5.out HB5.out H4.out).mono ?_
  rintro e w6 ⟨rfl, hu_, hb_, hk_⟩
  have HU6 := Aside0.mk hu_
  have HB6 := Aside0.mk hb_
  have HR6 := Aside0.mk (hk_.blk HR5.out (by omega) (by simp))
  have HM6 := Aside0.mk (hk_.blk HM5.out (by omega) (by simp))
  have hz6 := hk_.1
  clear hu_ hb_ hk_ HU5 HB5 HR5 HM5 H4
  go_wp2_with fail
  refine (wire_unpacker_text.calls k _ _ _ t b5 d5 w _ HU6.out HB6.out H5.out).mono ?_
  rintro e w7 ⟨rfl, hu_, hb_, hk_⟩
  have HU7 := Aside0.mk hu_
  have HB7 := Aside0.mk hb_
  have HR7 := Aside0.mk (hk_.blk HR6.out (by omega) (by simp))
  have HM7 := Aside0.mk (hk_.blk HM6.out (by omega) (by simp))
  have hz7 := hk_.1
  clear hu_ hb_ hk_ HU6 HB6 HR6 HM6 H5
  go_wp2_with fail
  refine (wire_unpacker_ratio.calls k _ _ _ ru rd_ b6 d6 w _ HU7.out HB7.out H6.out).mono ?_
  rintro e w8 ⟨rfl, hu_, hb_, hk_⟩
  have HU8 := Aside0.mk hu_
  have HB8 := Aside0.mk hb_
  have HR8 := Aside0.mk (hk_.blk HR7.out (by omega) (by simp))
  have HM8 := Aside0.mk (hk_.blk HM7.out (by omega) (by simp))
  have hz8 := hk_.1
  clear hu_ hb_ hk_ HU7 HB7 HR7 HM7 H6
  have kcHM3 : w8.cell? ⟨m, 3, none⟩ = some (.string ⟨#[]⟩) := (blk_cell HM8.out 3).trans rfl
  have kfHM3 : w8.frozen? ⟨m, 3, none⟩ = false := blk_frozen HM8.out 3
  have kcHM4 : w8.cell? ⟨m, 4, none⟩ = some (.string ⟨#[]⟩) := (blk_cell HM8.out 4).trans rfl
  have kfHM4 : w8.frozen? ⟨m, 4, none⟩ = false := blk_frozen HM8.out 4
  have kcHM5 : w8.cell? ⟨m, 5, none⟩ = some (.int .i64 0) := (blk_cell HM8.out 5).trans rfl
  have kfHM5 : w8.frozen? ⟨m, 5, none⟩ = false := blk_frozen HM8.out 5
  have kcHM6 : w8.cell? ⟨m, 6, none⟩ = some (.int .i64 0) := (blk_cell HM8.out 6).trans rfl
  have kfHM6 : w8.frozen? ⟨m, 6, none⟩ = false := blk_frozen HM8.out 6
  go_wp2_with fail
  clear kcHM3 kfHM3 kcHM4 kfHM4 kcHM5 kfHM5 kcHM6 kfHM6
  obtain ⟨w9, hw_⟩ : ∃ w', w' = ((((w8.setCell ⟨m, 3, none⟩ (.string p)).setCell ⟨m, 4, none⟩ (.string t)).setCell ⟨m, 5, none⟩ (.int .i64 ru)).setCell ⟨m, 6, none⟩ (.int .i64 rd_)) := ⟨_, rfl⟩
  rw [← hw_]
  have HM9 := Aside0.mk (show w9.heap[m]? = some (.cells #[.int .i64 1, .string s, .int .i64 n, .string p, .string t, .int .i64 ru, .int .i64 rd_, .int .i64 0, .int .i64 0, .int .i64 0, .slice none 0 0, .int .i64 0, .int .i64 0] 40 (0, 0)) by rw [hw_]; exact (blk_put (blk_put (blk_put (blk_put HM8.out 3 _ rfl) 4 _ rfl) 5 _ rfl) 6 _ rfl))
  have HR9 := Aside0.mk (show w9.heap[w.heap.size]? = some (.cells #[.int .i64 0, .string ⟨#[]⟩, .int .i64 0, .string ⟨#[]⟩, .string ⟨#[]⟩, .int .i64 0, .int .i64 0, .int .i64 0, .int .i64 0, .int .i64 0, .slice none 0 0, .int .i64 0, .int .i64 0] 40 (0, 0)) by rw [hw_, Below.heap_setCell _ _ _ _ (by simp; omega), Below.heap_setCell _ _ _ _ (by simp; omega), Below.heap_setCell _ _ _ _ (by simp; omega), Below.heap_setCell _ _ _ _ (by simp; omega)]; exact HR8.out)
  have HU9 := Aside0.mk (show IsS75 w w9 (w.heap.size + 1) _ _ from ⟨by rw [hw_, Below.heap_setCell _ _ _ _ (by simp; omega), Below.heap_setCell _ _ _ _ (by simp; omega), Below.heap_setCell _ _ _ _ (by simp; omega), Below.heap_setCell _ _ _ _ (by simp; omega)]; exact HU8.out.1, by omega⟩)
  have HB9 := Aside0.mk (show Below w.heap.size w w9 by rw [hw_]; exact (below_set (below_set (below_set (below_set HB8.out (by omega)) (by omega)) (by omega)) (by omega)))
  have hz9 : w8.heap.size ≤ w9.heap.size := by rw [hw_]; simp
  clear hw_ HM8 HR8 HU8 HB8
  refine (wire_unpacker_number.calls k _ _ _ lo b7 d7 w _ HU9.out HB9.out H7.out).mono ?_
  rintro e w10 ⟨rfl, hu_, hb_, hk_⟩
  have HU10 := Aside0.mk hu_
  have HB10 := Aside0.mk hb_
  have HR10 := Aside0.mk (hk_.blk HR9.out (by omega) (by simp))
  have HM10 := Aside0.mk (hk_.blk HM9.out (by omega) (by simp))
  have hz10 := hk_.1
  clear hu_ hb_ hk_ HU9 HB9 HR9 HM9 H7
  go_wp2_with fail
  refine (wire_unpacker_number.calls k _ _ _ hi b8 d8 w _ HU10.out HB10.out H8.out).mono ?_
  rintro e w11 ⟨rfl, hu_, hb_, hk_⟩
  have HU11 := Aside0.mk hu_
  have HB11 := Aside0.mk hb_
  have HR11 := Aside0.mk (hk_.blk HR10.out (by omega) (by simp))
  have HM11 := Aside0.mk (hk_.blk HM10.out (by omega) (by simp))
  have hz11 := hk_.1
  clear hu_ hb_ hk_ HU10 HB10 HR10 HM10 H8
  have kcHM7 : w11.cell? ⟨m, 7, none⟩ = some (.int .i64 0) := (blk_cell HM11.out 7).trans rfl
  have kfHM7 : w11.frozen? ⟨m, 7, none⟩ = false := blk_frozen HM11.out 7
  have kcHM8 : w11.cell? ⟨m, 8, none⟩ = some (.int .i64 0) := (blk_cell HM11.out 8).trans rfl
  have kfHM8 : w11.frozen? ⟨m, 8, none⟩ = false := blk_frozen HM11.out 8
  go_upto_region 18 with (fail)
  clear kcHM7 kfHM7 kcHM8 kfHM8
  obtain ⟨w12, hw_⟩ : ∃ w', w' = ((w11.setCell ⟨m, 7, none⟩ (.int .i64 lo)).setCell ⟨m, 8, none⟩ (.int .i64 hi)) := ⟨_, rfl⟩
  rw [← hw_]
  have HM12 := Aside0.mk (show w12.heap[m]? = some (.cells #[.int .i64 1, .string s, .int .i64 n, .string p, .string t, .int .i64 ru, .int .i64 rd_, .int .i64 lo, .int .i64 hi, .int .i64 0, .slice none 0 0, .int .i64 0, .int .i64 0] 40 (0, 0)) by rw [hw_]; exact (blk_put (blk_put HM11.out 7 _ rfl) 8 _ rfl))
  have HR12 := Aside0.mk (show w12.heap[w.heap.size]? = some (.cells #[.int .i64 0, .string ⟨#[]⟩, .int .i64 0, .string ⟨#[]⟩, .string ⟨#[]⟩, .int .i64 0, .int .i64 0, .int .i64 0, .int .i64 0, .int .i64 0, .slice none 0 0, .int .i64 0, .int .i64 0] 40 (0, 0)) by rw [hw_, Below.heap_setCell _ _ _ _ (by simp; omega), Below.heap_setCell _ _ _ _ (by simp; omega)]; exact HR11.out)
  have HU12 := Aside0.mk (show IsS75 w w12 (w.heap.size + 1) _ _ from ⟨by rw [hw_, Below.heap_setCell _ _ _ _ (by simp; omega), Below.heap_setCell _ _ _ _ (by simp; omega)]; exact HU11.out.1, by omega⟩)
  have HB12 := Aside0.mk (show Below w.heap.size w w12 by rw [hw_]; exact (below_set (below_set HB11.out (by omega)) (by omega)))
  have hz12 : w11.heap.size ≤ w12.heap.size := by rw [hw_]; simp
  clear hw_ HM11 HR11 HU11 HB11
  have kcHM0 : w12.cell? ⟨m, 0, none⟩ = some (.int .i64 1) := (blk_cell HM12.out 0).trans rfl
  have kfHM0 : w12.frozen? ⟨m, 0, none⟩ = false := blk_frozen HM12.out 0
  have kcHM1 : w12.cell? ⟨m, 1, none⟩ = some (.string s) := (blk_cell HM12.out 1).trans rfl
  have kfHM1 : w12.frozen? ⟨m, 1, none⟩ = false := blk_frozen HM12.out 1
  have kcHM2 : w12.cell? ⟨m, 2, none⟩ = some (.int .i64 n) := (blk_cell HM12.out 2).trans rfl
  have kfHM2 : w12.frozen? ⟨m, 2, none⟩ = false := blk_frozen HM12.out 2
  have kcHM3 : w12.cell? ⟨m, 3, none⟩ = some (.string p) := (blk_cell HM12.out 3).trans rfl
  have kfHM3 : w12.frozen? ⟨m, 3, none⟩ = false := blk_frozen HM12.out 3
  have kcHM4 : w12.cell? ⟨m, 4, none⟩ = some (.string t) := (blk_cell HM12.out 4).trans rfl
  have kfHM4 : w12.frozen? ⟨m, 4, none⟩ = false := blk_frozen HM12.out 4
  have kcHM5 : w12.cell? ⟨m, 5, none⟩ = some (.int .i64 ru) := (blk_cell HM12.out 5).trans rfl
  have kfHM5 : w12.frozen? ⟨m, 5, none⟩ = false := blk_frozen HM12.out 5
  have kcHM6 : w12.cell? ⟨m, 6, none⟩ = some (.int .i64 rd_) := (blk_cell HM12.out 6).trans rfl
  have kfHM6 : w12.frozen? ⟨m, 6, none⟩ = false := blk_frozen HM12.out 6
  have kcHM7 : w12.cell? ⟨m, 7, none⟩ = some (.int .i64 lo) := (blk_cell HM12.out 7).trans rfl
  have kfHM7 : w12.frozen? ⟨m, 7, none⟩ = false := blk_frozen HM12.out 7
  have kcHM8 : w12.cell? ⟨m, 8, none⟩ = some (.int .i64 hi) := (blk_cell HM12.out 8).trans rfl
  have kfHM8 : w12.frozen? ⟨m, 8, none⟩ = false := blk_frozen HM12.out 8
  have kcHM9 : w12.cell? ⟨m, 9, none⟩ = some (.int .i64 0) := (blk_cell HM12.out 9).trans rfl
  have kfHM9 : w12.frozen? ⟨m, 9, none⟩ = false := blk_frozen HM12.out 9
  have kcHM10 : w12.cell? ⟨m, 10, none⟩ = some (.slice none 0 0) := (blk_cell HM12.out 10).trans rfl
  have kfHM10 : w12.frozen? ⟨m, 10, none⟩ = false := blk_frozen HM12.out 10
  have kcHM11 : w12.cell? ⟨m, 11, none⟩ = some (.int .i64 0) := (blk_cell HM12.out 11).trans rfl
  have kfHM11 : w12.frozen? ⟨m, 11, none⟩ = false := blk_frozen HM12.out 11
  have kcHM12 : w12.cell? ⟨m, 12, none⟩ = some (.int .i64 0) := (blk_cell HM12.out 12).trans rfl
  have kfHM12 : w12.frozen? ⟨m, 12, none⟩ = false := blk_frozen HM12.out 12
  have kcHR0 : w12.cell? ⟨w.heap.size, 0, none⟩ = some (.int .i64 0) := (blk_cell HR12.out 0).trans rfl
  have kfHR0 : w12.frozen? ⟨w.heap.size, 0, none⟩ = false := blk_frozen HR12.out 0
  have kcHR1 : w12.cell? ⟨w.heap.size, 1, none⟩ = some (.string ⟨#[]⟩) := (blk_cell HR12.out 1).trans rfl
  have kfHR1 : w12.frozen? ⟨w.heap.size, 1, none⟩ = false := blk_frozen HR12.out 1
  have kcHR2 : w12.cell? ⟨w.heap.size, 2, none⟩ = some (.int .i64 0) := (blk_cell HR12.out 2).trans rfl
  have kfHR2 : w12.frozen? ⟨w.heap.size, 2, none⟩ = false := blk_frozen HR12.out 2
  have kcHR3 : w12.cell? ⟨w.heap.size, 3, none⟩ = some (.string ⟨#[]⟩) := (blk_cell HR12.out 3).trans rfl
  have kfHR3 : w12.frozen? ⟨w.heap.size, 3, none⟩ = false := blk_frozen HR12.out 3
  have kcHR4 : w12.cell? ⟨w.heap.size, 4, none⟩ = some (.string ⟨#[]⟩) := (blk_cell HR12.out 4).trans rfl
  have kfHR4 : w12.frozen? ⟨w.heap.size, 4, none⟩ = false := blk_frozen HR12.out 4
  have kcHR5 : w12.cell? ⟨w.heap.size, 5, none⟩ = some (.int .i64 0) := (blk_cell HR12.out 5).trans rfl
  have kfHR5 : w12.frozen? ⟨w.heap.size, 5, none⟩ = false := blk_frozen HR12.out 5
  have kcHR6 : w12.cell? ⟨w.heap.size, 6, none⟩ = some (.int .i64 0) := (blk_cell HR12.out 6).trans rfl
  have kfHR6 : w12.frozen? ⟨w.heap.size, 6, none⟩ = false := blk_frozen HR12.out 6
  have kcHR7 : w12.cell? ⟨w.heap.size, 7, none⟩ = some (.int .i64 0) := (blk_cell HR12.out 7).trans rfl
  have kfHR7 : w12.frozen? ⟨w.heap.size, 7, none⟩ = false := blk_frozen HR12.out 7
  have kcHR8 : w12.cell? ⟨w.heap.size, 8, none⟩ = some (.int .i64 0) := (blk_cell HR12.out 8).trans rfl
  have kfHR8 : w12.frozen? ⟨w.heap.size, 8, none⟩ = false := blk_frozen HR12.out 8
  have kcHR9 : w12.cell? ⟨w.heap.size, 9, none⟩ = some (.int .i64 0) := (blk_cell HR12.out 9).trans rfl
  have kfHR9 : w12.frozen? ⟨w.heap.size, 9, none⟩ = false := blk_frozen HR12.out 9
  have kcHR10 : w12.cell? ⟨w.heap.size, 10, none⟩ = some (.slice none 0 0) := (blk_cell HR12.out 10).trans rfl
  have kfHR10 : w12.frozen? ⟨w.heap.size, 10, none⟩ = false := blk_frozen HR12.out 10
  have kcHR11 : w12.cell? ⟨w.heap.size, 11, none⟩ = some (.int .i64 0) := (blk_cell HR12.out 11).trans rfl
  have kfHR11 : w12.frozen? ⟨w.heap.size, 11, none⟩ = false := blk_frozen HR12.out 11
  have kcHR12 : w12.cell? ⟨w.heap.size, 12, none⟩ = some (.int .i64 0) := (blk_cell HR12.out 12).trans rfl
  have kfHR12 : w12.frozen? ⟨w.heap.size, 12, none⟩ = false := blk_frozen HR12.out 12
  have kb0 : w12.cell? ⟨w.heap.size + 1, 0, none⟩ = some (.string b8) := (blk_cell HU12.out.1 0).trans rfl
  have kb1 : w12.cell? ⟨w.heap.size + 1, 1, none⟩ = some (.bool d8) := (blk_cell HU12.out.1 1).trans rfl
  have hmr : m ≠ w.heap.size := by omega
  have hmu : m ≠ w.heap.size + 1 := by omega
  cases d8 with
  | true =>
    have HV := Aside0.mk (show wire_Unpack.finv b8 true (1, s, n, p, t, ru, rd_, lo, hi, 0, [], 0, 0, 0) = wire_Unpack.no 2 from rfl)
    go_wp2
    exact bodyPost_ret (v := .tuple #[.agg #[.int .i64 0, .string ⟨#[]⟩, .int .i64 0, .string ⟨#[]⟩, .string ⟨#[]⟩, .int .i64 0, .int .i64 0, .int .i64 0, .int .i64 0, .int .i64 0, .slice none 0 0, .int .i64 0, .int .i64 0], .int .i64 2]) (by simp [results, Try.results14, go_sem, *]) rfl (un_post_of HV.out ⟨_, rfl, Kd.R_nil _ _ _ _ _, (by (repeat (refine below_set ?_ (by omega))); exact HB12.out)⟩)
  | false =>
    by_cases he : b8.toList = []
    · have he0 : (b8.toList == ([] : List UInt8)) = true := beq_iff_eq.mpr he
      have he1 : (b8.toList != ([] : List UInt8)) = false := bne_eq_false_iff_eq.mpr he
      have HV := Aside0.mk (show wire_Unpack.finv b8 false (1, s, n, p, t, ru, rd_, lo, hi, 0, [], 0, 0, 0) = (1, s, n, p, t, ru, rd_, lo, hi, 0, [], 0, 0, 0) by rw [wire_Unpack.finv, if_neg (by decide), if_pos he])
      clear he
      go_wp2
      exact bodyPost_ret (v := .tuple #[.agg #[.int .i64 1, .string s, .int .i64 n, .string p, .string t, .int .i64 ru, .int .i64 rd_, .int .i64 lo, .int .i64 hi, .int .i64 0, .slice none 0 0, .int .i64 0, .int .i64 0], .int .i64 0]) (by simp [results, Try.results14, go_sem, *]) rfl (un_post_of HV.out ⟨_, rfl, Kd.R_nil _ _ _ _ _, (by (repeat (refine below_set ?_ (by omega))); exact HB12.out)⟩)
    · have he0 : (b8.toList == ([] : List UInt8)) = false := beq_eq_false_iff_ne.mpr he
      have he1 : (b8.toList != ([] : List UInt8)) = true := bne_iff_ne.mpr he
      have HV := Aside0.mk (show wire_Unpack.finv b8 false (1, s, n, p, t, ru, rd_, lo, hi, 0, [], 0, 0, 0) = wire_Unpack.no 2 by rw [wire_Unpack.finv, if_neg (by decide), if_neg he])
      clear he
      go_wp2
      exact bodyPost_ret (v := .tuple #[.agg #[.int .i64 0, .string ⟨#[]⟩, .int .i64 0, .string ⟨#[]⟩, .string ⟨#[]⟩, .int .i64 0, .int .i64 0, .int .i64 0, .int .i64 0, .int .i64 0, .slice none 0 0, .int .i64 0, .int .i64 0], .int .i64 2]) (by simp [results, Try.results14, go_sem, *]) rfl (un_post_of HV.out ⟨_, rfl, Kd.R_nil _ _ _ _ _, (by (repeat (refine below_set ?_ (by omega))); exact HB12.out)⟩)
set_option maxHeartbeats 16000000 in
set_option maxRecDepth 100000 in
theorem un_c3 (k : Nat) (a0 : ByteArray) (w : World) (hsz : ¬ (a0.size : Int) > 65536) (c : Int) (b1 : ByteArray) (d1 : Bool) (h1 : wire_unpacker_byte.f a0 false = some (c, b1, d1)) (s : ByteArray) (b2 : ByteArray) (d2 : Bool) (h2 : wire_unpacker_text.f k b1 d1 = some (s, b2, d2)) (n : Int) (b3 : ByteArray) (d3 : Bool) (h3 : wire_unpacker_number.f k b2 d2 = some (n, b3, d3)) (hc : c ≠ 1 ∧ c ≠ 2) :
    Calls Try.prog 14 #[.string a0] w (un_post w (wire_Unpack.no 2)) := by
  have u40 := Try.underlying40
  have u75 := Try.underlying75
  have u73 := Try.underlying73
  have u38 := Try.underlying38
  have hsz' : decide ((65536 : Int) < (a0.size : Int)) = false := decide_eq_false (by omega)
  clear hsz
  obtain ⟨hc1, hc2⟩ := un_byte_rng h1
  have H1 := Aside0.mk h1
  have H2 := Aside0.mk h2
  have H3 := Aside0.mk h3
  have HC := Aside0.mk hc
  clear h1 h2 h3 hc
  go_enter Try.func14, Try.ntmps14
  go_wp2_with fail
  obtain ⟨w0, hw0⟩ : ∃ w0, w0 = (w.alloc (.cells #[.int .i64 0, .string ⟨#[]⟩, .int .i64 0, .string ⟨#[]⟩, .string ⟨#[]⟩, .int .i64 0, .int .i64 0, .int .i64 0, .int .i64 0, .int .i64 0, .slice none 0 0, .int .i64 0, .int .i64 0] 40)).alloc (.cells #[.string a0, .bool false] 75) := ⟨_, rfl⟩
  rw [← hw0]
  have HR0 := Aside0.mk (show w0.heap[w.heap.size]? = some (.cells #[.int .i64 0, .string ⟨#[]⟩, .int .i64 0, .string ⟨#[]⟩, .string ⟨#[]⟩, .int .i64 0, .int .i64 0, .int .i64 0, .int .i64 0, .int .i64 0, .slice none 0 0, .int .i64 0, .int .i64 0] 40 (0, 0)) by rw [hw0]; exact blk_alloc (blk_new w _) _)
  have HU0 := Aside0.mk (show IsS75 w w0 (w.heap.size + 1) a0 false from ⟨by rw [hw0]; have := blk_new (w.alloc (.cells #[.int .i64 0, .string ⟨#[]⟩, .int .i64 0, .string ⟨#[]⟩, .string ⟨#[]⟩, .int .i64 0, .int .i64 0, .int .i64 0, .int .i64 0, .int .i64 0, .slice none 0 0, .int .i64 0, .int .i64 0] 40)) (.cells #[.string a0, .bool false] 75); rw [World.size_alloc] at this; exact this, by omega⟩)
  have HB0 := Aside0.mk (show Below w.heap.size w w0 by rw [hw0]; exact below_alloc (below_alloc (Below.refl _ _) _) _)
  have hz0 : w0.heap.size = w.heap.size + 2 := by rw [hw0]; simp
  clear hw0
  refine (wire_unpacker_byte.calls _ _ _ c b1 d1 w _ HU0.out HB0.out H1.out).mono ?_
  rintro e w1 ⟨rfl, hu_, hb_, hk_⟩
  have HU1 := Aside0.mk hu_
  have HB1 := Aside0.mk hb_
  have HR1 := Aside0.mk (hk_.blk HR0.out (by omega) (by simp))
  have hz1 := hk_.1
  clear hu_ hb_ hk_ HU0 HB0 HR0 H1
  go_wp2_with fail
  obtain ⟨w2, hw_⟩ : ∃ w', w' = w1.alloc (.cells #[.int .i64 c, .string ⟨#[]⟩, .int .i64 0, .string ⟨#[]⟩, .string ⟨#[]⟩, .int .i64 0, .int .i64 0, .int .i64 0, .int .i64 0, .int .i64 0, .slice none 0 0, .int .i64 0, .int .i64 0] 40) := ⟨_, rfl⟩
  rw [← hw_]
  have HM2 := Aside0.mk (show w2.heap[w1.heap.size]? = some (.cells #[.int .i64 c, .string ⟨#[]⟩, .int .i64 0, .string ⟨#[]⟩, .string ⟨#[]⟩, .int .i64 0, .int .i64 0, .int .i64 0, .int .i64 0, .int .i64 0, .slice none 0 0, .int .i64 0, .int .i64 0] 40 (0, 0)) by rw [hw_]; exact blk_new w1 _)
  have HR2 := Aside0.mk (show w2.heap[w.heap.size]? = some (.cells #[.int .i64 0, .string ⟨#[]⟩, .int .i64 0, .string ⟨#[]⟩, .string ⟨#[]⟩, .int .i64 0, .int .i64 0, .int .i64 0, .int .i64 0, .int .i64 0, .slice none 0 0, .int .i64 0, .int .i64 0] 40 (0, 0)) by rw [hw_]; exact blk_alloc HR1.out _)
  have HU2 := Aside0.mk (show IsS75 w w2 (w.heap.size + 1) b1 d1 from ⟨by rw [hw_]; exact blk_alloc HU1.out.1 _, by omega⟩)
  have HB2 := Aside0.mk (show Below w.heap.size w w2 by rw [hw_]; exact below_alloc HB1.out _)
  have hz2 : w2.heap.size = w1.heap.size + 1 := by rw [hw_]; simp
  clear hw_ HU1 HB1 HR1
  generalize w1.heap.size = m at *
  refine (wire_unpacker_text.calls k _ _ _ s b2 d2 w _ HU2.out HB2.out H2.out).mono ?_
  rintro e w3 ⟨rfl, hu_, hb_, hk_⟩
  have HU3 := Aside0.mk hu_
  have HB3 := Aside0.mk hb_
  have HR3 := Aside0.mk (hk_.blk HR2.out (by omega) (by simp))
  have HM3 := Aside0.mk (hk_.blk HM2.out (by omega) (by simp))
  have hz3 := hk_.1
  clear hu_ hb_ hk_ HU2 HB2 HR2 HM2 H2
  go_wp2_with fail
  refine (wire_unpacker_number.calls k _ _ _ n b3 d3 w _ HU3.out HB3.out H3.out).mono ?_
  rintro e w4 ⟨rfl, hu_, hb_, hk_⟩
  have HU4 := Aside0.mk hu_
  have HB4 := Aside0.mk hb_
  have HR4 := Aside0.mk (hk_.blk HR3.out (by omega) (by simp))
  have HM4 := Aside0.mk (hk_.blk HM3.out (by omega) (by simp))
  have hz4 := hk_.1
  clear hu_ hb_ hk_ HU3 HB3 HR3 HM3 H3
  have kcHM0 : w4.cell? ⟨m, 0, none⟩ = some (.int .i64 c) := (blk_cell HM4.out 0).trans rfl
  have kfHM0 : w4.frozen? ⟨m, 0, none⟩ = false := blk_frozen HM4.out 0
  have kcHM1 : w4.cell? ⟨m, 1, none⟩ = some (.string ⟨#[]⟩) := (blk_cell HM4.out 1).trans rfl
  have kfHM1 : w4.frozen? ⟨m, 1, none⟩ = false := blk_frozen HM4.out 1
  have kcHM2 : w4.cell? ⟨m, 2, none⟩ = some (.int .i64 0) := (blk_cell HM4.out 2).trans rfl
  have kfHM2 : w4.frozen? ⟨m, 2, none⟩ = false := blk_frozen HM4.out 2
  have kcHR0 : w4.cell? ⟨w.heap.size, 0, none⟩ = some (.int .i64 0) := (blk_cell HR4.out 0).trans rfl
  have kfHR0 : w4.frozen? ⟨w.heap.size, 0, none⟩ = false := blk_frozen HR4.out 0
  have kcHR1 : w4.cell? ⟨w.heap.size, 1, none⟩ = some (.string ⟨#[]⟩) := (blk_cell HR4.out 1).trans rfl
  have kfHR1 : w4.frozen? ⟨w.heap.size, 1, none⟩ = false := blk_frozen HR4.out 1
  have kcHR2 : w4.cell? ⟨w.heap.size, 2, none⟩ = some (.int .i64 0) := (blk_cell HR4.out 2).trans rfl
  have kfHR2 : w4.frozen? ⟨w.heap.size, 2, none⟩ = false := blk_frozen HR4.out 2
  have kcHR3 : w4.cell? ⟨w.heap.size, 3, none⟩ = some (.string ⟨#[]⟩) := (blk_cell HR4.out 3).trans rfl
  have kfHR3 : w4.frozen? ⟨w.heap.size, 3, none⟩ = false := blk_frozen HR4.out 3
  have kcHR4 : w4.cell? ⟨w.heap.size, 4, none⟩ = some (.string ⟨#[]⟩) := (blk_cell HR4.out 4).trans rfl
  have kfHR4 : w4.frozen? ⟨w.heap.size, 4, none⟩ = false := blk_frozen HR4.out 4
  have kcHR5 : w4.cell? ⟨w.heap.size, 5, none⟩ = some (.int .i64 0) := (blk_cell HR4.out 5).trans rfl
  have kfHR5 : w4.frozen? ⟨w.heap.size, 5, none⟩ = false := blk_frozen HR4.out 5
  have kcHR6 : w4.cell? ⟨w.heap.size, 6, none⟩ = some (.int .i64 0) := (blk_cell HR4.out 6).trans rfl
  have kfHR6 : w4.frozen? ⟨w.heap.size, 6, none⟩ = false := blk_frozen HR4.out 6
  have kcHR7 : w4.cell? ⟨w.heap.size, 7, none⟩ = some (.int .i64 0) := (blk_cell HR4.out 7).trans rfl
  have kfHR7 : w4.frozen? ⟨w.heap.size, 7, none⟩ = false := blk_frozen HR4.out 7
  have kcHR8 : w4.cell? ⟨w.heap.size, 8, none⟩ = some (.int .i64 0) := (blk_cell HR4.out 8).trans rfl
  have kfHR8 : w4.frozen? ⟨w.heap.size, 8, none⟩ = false := blk_frozen HR4.out 8
  have kcHR9 : w4.cell? ⟨w.heap.size, 9, none⟩ = some (.int .i64 0) := (blk_cell HR4.out 9).trans rfl
  have kfHR9 : w4.frozen? ⟨w.heap.size, 9, none⟩ = false := blk_frozen HR4.out 9
  have kcHR10 : w4.cell? ⟨w.heap.size, 10, none⟩ = some (.slice none 0 0) := (blk_cell HR4.out 10).trans rfl
  have kfHR10 : w4.frozen? ⟨w.heap.size, 10, none⟩ = false := blk_frozen HR4.out 10
  have kcHR11 : w4.cell? ⟨w.heap.size, 11, none⟩ = some (.int .i64 0) := (blk_cell HR4.out 11).trans rfl
  have kfHR11 : w4.frozen? ⟨w.heap.size, 11, none⟩ = false := blk_frozen HR4.out 11
  have kcHR12 : w4.cell? ⟨w.heap.size, 12, none⟩ = some (.int .i64 0) := (blk_cell HR4.out 12).trans rfl
  have kfHR12 : w4.frozen? ⟨w.heap.size, 12, none⟩ = false := blk_frozen HR4.out 12
  have kb0 : w4.cell? ⟨w.heap.size + 1, 0, none⟩ = some (.string b3) := (blk_cell HU4.out.1 0).trans rfl
  have kb1 : w4.cell? ⟨w.heap.size + 1, 1, none⟩ = some (.bool d3) := (blk_cell HU4.out.1 1).trans rfl
  have kg1 : w4.frozen? ⟨w.heap.size + 1, 1, none⟩ = false := blk_frozen HU4.out.1 1
  have hmr : m ≠ w.heap.size := by omega
  have hmu : m ≠ w.heap.size + 1 := by omega
  have t1 : decide (c = 1) = false := decide_eq_false HC.out.1
  have t2 : decide (c = 2) = false := decide_eq_false HC.out.2
  have t3 : (c == 1) = false := beq_eq_false_iff_ne.mpr HC.out.1
  have t4 : (c == 2) = false := beq_eq_false_iff_ne.mpr HC.out.2
  go_wp2
  exact bodyPost_ret (v := .tuple #[.agg #[.int .i64 0, .string ⟨#[]⟩, .int .i64 0, .string ⟨#[]⟩, .string ⟨#[]⟩, .int .i64 0, .int .i64 0, .int .i64 0, .int .i64 0, .int .i64 0, .slice none 0 0, .int .i64 0, .int .i64 0], .int .i64 2]) (by simp [results, Try.results14, go_sem, *]) rfl ⟨_, rfl, Kd.R_nil _ _ _ _ _, (by (repeat (refine below_set ?_ (by omega))); exact HB4.out)⟩
theorem un_form {w : World} {base : Nat} {e : TypeId} {size n : Nat} {v : Value} {xs : List Value} (h : w.ownsRow base e size v n xs) : ∃ A c, v = .slice A n c := by
  rcases h.2 with ⟨h0, h1⟩ | ⟨g, cap, cur, hv, _⟩
  · exact ⟨none, 0, by rw [h0, h1]⟩
  · exact ⟨_, _, hv⟩
theorem un_vals_go {f : Nat} {n : Int} {b : ByteArray} {l : List Int} {r : List Int × ByteArray × Bool} (h : wire_Unpack.l0 f n b false l = some r) (hn : 0 < n) : ∃ f' z1 z2 z3, wire_unpacker_number.f f' b false = some (z1, z2, z3) ∧ l.length < 17592186044416 ∧ wire_Unpack.l0 f' (n - 1) z2 z3 (l ++ [z1]) = some r := by
  cases f with
  | zero => cases h
  | succ f =>
    rw [wire_Unpack.l0, if_pos hn, if_neg (by decide)] at h
    obtain ⟨⟨z1, z2, z3⟩, hz, h⟩ := Option.bind_eq_some_iff.mp h
    split at h
    · exact ⟨f, z1, z2, z3, hz, by assumption, h⟩
    · cases h
theorem un_vals_end1 {f : Nat} {n : Int} {b bN : ByteArray} {dN : Bool} {l lN : List Int} (h : wire_Unpack.l0 f n b true l = some (lN, bN, dN)) (hn : 0 < n) : lN = l ∧ bN = b ∧ dN = true := by
  cases f with
  | zero => cases h
  | succ f =>
    rw [wire_Unpack.l0, if_pos hn, if_pos rfl] at h
    cases h
    exact ⟨rfl, rfl, rfl⟩
theorem un_vals_end0 {f : Nat} {n : Int} {b bN : ByteArray} {d dN : Bool} {l lN : List Int} (h : wire_Unpack.l0 f n b d l = some (lN, bN, dN)) (hn : ¬ 0 < n) : lN = l ∧ bN = b ∧ dN = d := by
  cases f with
  | zero => cases h
  | succ f =>
    rw [wire_Unpack.l0, if_neg hn] at h
    cases h
    exact ⟨rfl, rfl, rfl⟩
theorem un_int : (Try.prog.info? 3).map (fun i => (i.zero, i.size, i.bytes)) = some (some (.int .i64 0), 1, 8) := by kernel_rfl
attribute [local go_sem ↓] Go.wp_at_zero Go.wp_at_succ
set_option maxHeartbeats 16000000 in
set_option maxRecDepth 100000 in
theorem un_c2 (k : Nat) (a0 : ByteArray) (w : World) (hsz : ¬ (a0.size : Int) > 65536) (c : Int) (b1 : ByteArray) (d1 : Bool) (h1 : wire_unpacker_byte.f a0 false = some (c, b1, d1)) (s : ByteArray) (b2 : ByteArray) (d2 : Bool) (h2 : wire_unpacker_text.f k b1 d1 = some (s, b2, d2)) (n : Int) (b3 : ByteArray) (d3 : Bool) (h3 : wire_unpacker_number.f k b2 d2 = some (n, b3, d3)) (hc : c = 2) (e_ : Int) (b4 : ByteArray) (d4 : Bool) (h4 : wire_unpacker_number.f k b3 d3 = some (e_, b4, d4)) (q : Int) (b5 : ByteArray) (d5 : Bool) (h5 : wire_unpacker_count.f k b4 d4 = some (q, b5, d5)) (hq1 : 0 ≤ q) (hq2 : q < 18446744073709551616) (lN : List Int) (bN : ByteArray) (dN : Bool) (hV : wire_Unpack.l0 k q b5 d5 [] = some (lN, bN, dN)) (ru rd_ : Int) (b8 : ByteArray) (d8 : Bool) (h8 : wire_unpacker_ratio.f k bN dN = some (ru, rd_, b8, d8)) :
    Calls Try.prog 14 #[.string a0] w (un_post w (wire_Unpack.finv b8 d8 (2, s, n, ⟨#[]⟩, ⟨#[]⟩, 0, 0, 0, 0, e_, lN, ru, rd_, 0))) := by
  have u40 := Try.underlying40
  have u75 := Try.underlying75
  have u73 := Try.underlying73
  have u38 := Try.underlying38
  have hsz' : decide ((65536 : Int) < (a0.size : Int)) = false := decide_eq_false (by omega)
  clear hsz
  obtain ⟨hc1, hc2⟩ := un_byte_rng h1
  have H1 := Aside0.mk h1
  have H2 := Aside0.mk h2
  have H3 := Aside0.mk h3
  have HC := Aside0.mk hc
  have H4 := Aside0.mk h4
  have H5 := Aside0.mk h5
  have HV := Aside0.mk hV
  have H8 := Aside0.mk h8
  clear h1 h2 h3 hc h4 h5 hV h8
  go_enter Try.func14, Try.ntmps14
  go_wp2_with fail
  obtain ⟨w0, hw0⟩ : ∃ w0, w0 = (w.alloc (.cells #[.int .i64 0, .string ⟨#[]⟩, .int .i64 0, .string ⟨#[]⟩, .string ⟨#[]⟩, .int .i64 0, .int .i64 0, .int .i64 0, .int .i64 0, .int .i64 0, .slice none 0 0, .int .i64 0, .int .i64 0] 40)).alloc (.cells #[.string a0, .bool false] 75) := ⟨_, rfl⟩
  rw [← hw0]
  have HR0 := Aside0.mk (show w0.heap[w.heap.size]? = some (.cells #[.int .i64 0, .string ⟨#[]⟩, .int .i64 0, .string ⟨#[]⟩, .string ⟨#[]⟩, .int .i64 0, .int .i64 0, .int .i64 0, .int .i64 0, .int .i64 0, .slice none 0 0, .int .i64 0, .int .i64 0] 40 (0, 0)) by rw [hw0]; exact blk_alloc (blk_new w _) _)
  have HU0 := Aside0.mk (show IsS75 w w0 (w.heap.size + 1) a0 false from ⟨by rw [hw0]; have := blk_new (w.alloc (.cells #[.int .i64 0, .string ⟨#[]⟩, .int .i64 0, .string ⟨#[]⟩, .string ⟨#[]⟩, .int .i64 0, .int .i64 0, .int .i64 0, .int .i64 0, .int .i64 0, .slice none 0 0, .int .i64 0, .int .i64 0] 40)) (.cells #[.string a0, .bool false] 75); rw [World.size_alloc] at this; exact this, by omega⟩)
  have HB0 := Aside0.mk (show Below w.heap.size w w0 by rw [hw0]; exact below_alloc (below_alloc (Below.refl _ _) _) _)
  have hz0 : w0.heap.size = w.heap.size + 2 := by rw [hw0]; simp
  clear hw0
  refine (wire_unpacker_byte.calls _ _ _ c b1 d1 w _ HU0.out HB0.out H1.out).mono ?_
  rintro e w1 ⟨rfl, hu_, hb_, hk_⟩
  have HU1 := Aside0.mk hu_
  have HB1 := Aside0.mk hb_
  have HR1 := Aside0.mk (hk_.blk HR0.out (by omega) (by simp))
  have hz1 := hk_.1
  clear hu_ hb_ hk_ HU0 HB0 HR0 H1
  go_wp2_with fail
  obtain ⟨w2, hw_⟩ : ∃ w', w' = w1.alloc (.cells #[.int .i64 c, .string ⟨#[]⟩, .int .i64 0, .string ⟨#[]⟩, .string ⟨#[]⟩, .int .i64 0, .int .i64 0, .int .i64 0, .int .i64 0, .int .i64 0, .slice none 0 0, .int .i64 0, .int .i64 0] 40) := ⟨_, rfl⟩
  rw [← hw_]
  have HM2 := Aside0.mk (show w2.heap[w1.heap.size]? = some (.cells #[.int .i64 c, .string ⟨#[]⟩, .int .i64 0, .string ⟨#[]⟩, .string ⟨#[]⟩, .int .i64 0, .int .i64 0, .int .i64 0, .int .i64 0, .int .i64 0, .slice none 0 0, .int .i64 0, .int .i64 0] 40 (0, 0)) by rw [hw_]; exact blk_new w1 _)
  have HR2 := Aside0.mk (show w2.heap[w.heap.size]? = some (.cells #[.int .i64 0, .string ⟨#[]⟩, .int .i64 0, .string ⟨#[]⟩, .string ⟨#[]⟩, .int .i64 0, .int .i64 0, .int .i64 0, .int .i64 0, .int .i64 0, .slice none 0 0, .int .i64 0, .int .i64 0] 40 (0, 0)) by rw [hw_]; exact blk_alloc HR1.out _)
  have HU2 := Aside0.mk (show IsS75 w w2 (w.heap.size + 1) b1 d1 from ⟨by rw [hw_]; exact blk_alloc HU1.out.1 _, by omega⟩)
  have HB2 := Aside0.mk (show Below w.heap.size w w2 by rw [hw_]; exact below_alloc HB1.out _)
  have hz2 : w2.heap.size = w1.heap.size + 1 := by rw [hw_]; simp
  clear hw_ HU1 HB1 HR1
  generalize w1.heap.size = m at *
  refine (wire_unpacker_text.calls k _ _ _ s b2 d2 w _ HU2.out HB2.out H2.out).mono ?_
  rintro e w3 ⟨rfl, hu_, hb_, hk_⟩
  have HU3 := Aside0.mk hu_
  have HB3 := Aside0.mk hb_
  have HR3 := Aside0.mk (hk_.blk HR2.out (by omega) (by simp))
  have HM3 := Aside0.mk (hk_.blk HM2.out (by omega) (by simp))
  have hz3 := hk_.1
  clear hu_ hb_ hk_ HU2 HB2 HR2 HM2 H2
  go_wp2_with fail
  refine (wire_unpacker_number.calls k _ _ _ n b3 d3 w _ HU3.out HB3.out H3.out).mono ?_
  rintro e w4 ⟨rfl, hu_, hb_, hk_⟩
  have HU4 := Aside0.mk hu_
  have HB4 := Aside0.mk hb_
  have HR4 := Aside0.mk (hk_.blk HR3.out (by omega) (by simp))
  have HM4 := Aside0.mk (hk_.blk HM3.out (by omega) (by simp))
  have hz4 := hk_.1
  clear hu_ hb_ hk_ HU3 HB3 HR3 HM3 H3
  have kcHM0 : w4.cell? ⟨m, 0, none⟩ = some (.int .i64 c) := (blk_cell HM4.out 0).trans rfl
  have kfHM0 : w4.frozen? ⟨m, 0, none⟩ = false := blk_frozen HM4.out 0
  have kcHM1 : w4.cell? ⟨m, 1, none⟩ = some (.string ⟨#[]⟩) := (blk_cell HM4.out 1).trans rfl
  have kfHM1 : w4.frozen? ⟨m, 1, none⟩ = false := blk_frozen HM4.out 1
  have kcHM2 : w4.cell? ⟨m, 2, none⟩ = some (.int .i64 0) := (blk_cell HM4.out 2).trans rfl
  have kfHM2 : w4.frozen? ⟨m, 2, none⟩ = false := blk_frozen HM4.out 2
  have hc := HC.out
  subst hc
  clear HC
  go_wp2_with fail
  clear kcHM0 kfHM0 kcHM1 kfHM1 kcHM2 kfHM2
  obtain ⟨w5, hw_⟩ : ∃ w', w' = ((w4.setCell ⟨m, 1, none⟩ (.string s)).setCell ⟨m, 2, none⟩ (.int .i64 n)) := ⟨_, rfl⟩
  rw [← hw_]
  have HM5 := Aside0.mk (show w5.heap[m]? = some (.cells #[.int .i64 2, .string s, .int .i64 n, .string ⟨#[]⟩, .string ⟨#[]⟩, .int .i64 0, .int .i64 0, .int .i64 0, .int .i64 0, .int .i64 0, .slice none 0 0, .int .i64 0, .int .i64 0] 40 (0, 0)) by rw [hw_]; exact (blk_put (blk_put HM4.out 1 _ rfl) 2 _ rfl))
  have HR5 := Aside0.mk (show w5.heap[w.heap.size]? = some (.cells #[.int .i64 0, .string ⟨#[]⟩, .int .i64 0, .string ⟨#[]⟩, .string ⟨#[]⟩, .int .i64 0, .int .i64 0, .int .i64 0, .int .i64 0, .int .i64 0, .slice none 0 0, .int .i64 0, .int .i64 0] 40 (0, 0)) by rw [hw_, Below.heap_setCell _ _ _ _ (by simp; omega), Below.heap_setCell _ _ _ _ (by simp; omega)]; exact HR4.out)
  have HU5 := Aside0.mk (show IsS75 w w5 (w.heap.size + 1) _ _ from ⟨by rw [hw_, Below.heap_setCell _ _ _ _ (by simp; omega), Below.heap_setCell _ _ _ _ (by simp; omega)]; exact HU4.out.1, by omega⟩)
  have HB5 := Aside0.mk (show Below w.heap.size w w5 by rw [hw_]; exact (below_set (below_set HB4.out (by omega)) (by omega)))
  have hz5 : w4.heap.size ≤ w5.heap.size := by rw [hw_]; simp
  clear hw_ HM4 HR4 HU4 HB4
  refine (wire_unpacker_number.calls k _ _ _ e_ b4 d4 w _ HU5.out HB5.out H4.out).mono ?_
  rintro e w6 ⟨rfl, hu_, hb_, hk_⟩
  have HU6 := Aside0.mk hu_
  have HB6 := Aside0.mk hb_
  have HR6 := Aside0.mk (hk_.blk HR5.out (by omega) (by simp))
  have HM6 := Aside0.mk (hk_.blk HM5.out (by omega) (by simp))
  have hz6 := hk_.1
  clear hu_ hb_ hk_ HU5 HB5 HR5 HM5 H4
  have kcHM9 : w6.cell? ⟨m, 9, none⟩ = some (.int .i64 0) := (blk_cell HM6.out 9).trans rfl
  have kfHM9 : w6.frozen? ⟨m, 9, none⟩ = false := blk_frozen HM6.out 9
  go_wp2_with fail
  clear kcHM9 kfHM9
  obtain ⟨w7, hw_⟩ : ∃ w', w' = (w6.setCell ⟨m, 9, none⟩ (.int .i64 e_)) := ⟨_, rfl⟩
  rw [← hw_]
  have HM7 := Aside0.mk (show w7.heap[m]? = some (.cells #[.int .i64 2, .string s, .int .i64 n, .string ⟨#[]⟩, .string ⟨#[]⟩, .int .i64 0, .int .i64 0, .int .i64 0, .int .i64 0, .int .i64 e_, .slice none 0 0, .int .i64 0, .int .i64 0] 40 (0, 0)) by rw [hw_]; exact (blk_put HM6.out 9 _ rfl))
  have HR7 := Aside0.mk (show w7.heap[w.heap.size]? = some (.cells #[.int .i64 0, .string ⟨#[]⟩, .int .i64 0, .string ⟨#[]⟩, .string ⟨#[]⟩, .int .i64 0, .int .i64 0, .int .i64 0, .int .i64 0, .int .i64 0, .slice none 0 0, .int .i64 0, .int .i64 0] 40 (0, 0)) by rw [hw_, Below.heap_setCell _ _ _ _ (by simp; omega)]; exact HR6.out)
  have HU7 := Aside0.mk (show IsS75 w w7 (w.heap.size + 1) _ _ from ⟨by rw [hw_, Below.heap_setCell _ _ _ _ (by simp; omega)]; exact HU6.out.1, by omega⟩)
  have HB7 := Aside0.mk (show Below w.heap.size w w7 by rw [hw_]; exact (below_set HB6.out (by omega)))
  have hz7 : w6.heap.size ≤ w7.heap.size := by rw [hw_]; simp
  clear hw_ HM6 HR6 HU6 HB6
  refine (wire_unpacker_count.calls k _ _ _ q b5 d5 w _ HU7.out HB7.out H5.out).mono ?_
  rintro e w8 ⟨rfl, hu_, hb_, hk_⟩
  have HU8 := Aside0.mk hu_
  have HB8 := Aside0.mk hb_
  have HR8 := Aside0.mk (hk_.blk HR7.out (by omega) (by simp))
  have HM8 := Aside0.mk (hk_.blk HM7.out (by omega) (by simp))
  have hz8 := hk_.1
  clear hu_ hb_ hk_ HU7 HB7 HR7 HM7 H5
  have hmr : m ≠ w.heap.size := by omega
  have hmu : m ≠ w.heap.size + 1 := by omega
  have hm8 : m < w8.heap.size := blk_lt HM8.out
  obtain ⟨i0, hi0, hz00, hz01, hz02⟩ := info_parts un_int
  go_wp2_with fail
  go_loopw [6] (fun v6 wr => ∃ (c6 : Int) (b : ByteArray) (d : Bool) (l : List Int) (v : Value) (f : Nat), v6 = .int .u64 c6 ∧ 0 ≤ c6 ∧ c6 < 18446744073709551616 ∧ Aside0 (wire_Unpack.l0 f c6 b d l = some (lN, bN, dN)) ∧ Aside0 (IsS75 w wr (w.heap.size + 1) b d) ∧ Aside0 (wr.heap[m]? = some (.cells #[.int .i64 2, .string s, .int .i64 n, .string ⟨#[]⟩, .string ⟨#[]⟩, .int .i64 0, .int .i64 0, .int .i64 0, .int .i64 0, .int .i64 e_, v, .int .i64 0, .int .i64 0] 40 (0, 0))) ∧ Aside0 (wr.heap[w.heap.size]? = some (.cells #[.int .i64 0, .string ⟨#[]⟩, .int .i64 0, .string ⟨#[]⟩, .string ⟨#[]⟩, .int .i64 0, .int .i64 0, .int .i64 0, .int .i64 0, .int .i64 0, .slice none 0 0, .int .i64 0, .int .i64 0] 40 (0, 0))) ∧ Aside0 (Below w.heap.size w wr) ∧ Aside0 (wr.ownsRow w.heap.size 3 1 v l.length (l.map (fun x => Value.int .i64 x))) ∧ v.ownBlock ≠ some m ∧ v.ownBlock ≠ some w.heap.size ∧ v.ownBlock ≠ some (w.heap.size + 1) ∧ m < wr.heap.size ∧ w.heap.size + 1 < wr.heap.size) (fun v6 _ => (intOf v6).toNat)
  case atStart => exact ⟨q, b5, d5, [], .slice none 0 0, k, rfl, hq1, hq2, HV, HU8, HM8, HR8, HB8, ⟨World.ownsRow_nil _ _ _ _⟩, by simp [Value.ownBlock], by simp [Value.ownBlock], by simp [Value.ownBlock], hm8, by omega⟩
  case round =>
    clear HU8 HM8 HR8 HB8 HV
    obtain ⟨c6, b, d, l, v, f, rfl, hc6, hc7, HV, HU9, HM9, HR9, HB9, HO9, hv1, hv2, hv3, hmw, huw⟩ := hrel
    obtain ⟨A, cA, rfl⟩ := un_form HO9.out
    have kb1 : wr.cell? ⟨w.heap.size + 1, 1, none⟩ = some (.bool d) := (blk_cell HU9.out.1 1).trans rfl
    by_cases hlt : 0 < c6
    · cases d with
      | true =>
        obtain ⟨rfl, rfl, rfl⟩ := un_vals_end1 HV.out hlt
        clear HV
        go_wp2_with fail
        clear kb1
        refine (wire_unpacker_ratio.calls k _ _ _ ru rd_ b8 d8 w _ HU9.out HB9.out H8.out).mono ?_
        rintro e w10 ⟨rfl, hu_, hb_, hk_⟩
        have HU10 := Aside0.mk hu_
        have HB10 := Aside0.mk hb_
        have HR10 := Aside0.mk (hk_.blk HR9.out (by omega) (by simp))
        have HM10 := Aside0.mk (hk_.blk HM9.out (by omega) (by simp))
        have HO10 := Aside0.mk (show Kd.R (Kd.int .i64) 3 w10 w.heap.size (fun k => k ≠ w.heap.size ∧ k ≠ m) (.slice A lN.length cA) lN from Kd.R_of_own (hk_.own HO9.out hv3 (Classical.em _)) (fun k hk => ⟨fun e => hv2 (by rw [hk, e]), fun e => hv1 (by rw [hk, e])⟩))
        have hz10 := hk_.1
        clear hu_ hb_ hk_ HU9 HB9 HR9 HM9 HO9 H8
        have kcHM11 : w10.cell? ⟨m, 11, none⟩ = some (.int .i64 0) := (blk_cell HM10.out 11).trans rfl
        have kfHM11 : w10.frozen? ⟨m, 11, none⟩ = false := blk_frozen HM10.out 11
        have kcHM12 : w10.cell? ⟨m, 12, none⟩ = some (.int .i64 0) := (blk_cell HM10.out 12).trans rfl
        have kfHM12 : w10.frozen? ⟨m, 12, none⟩ = false := blk_frozen HM10.out 12
        go_upto_region 18 with (fail)
        clear kcHM11 kfHM11 kcHM12 kfHM12
        obtain ⟨w11, hw_⟩ : ∃ w', w' = ((w10.setCell ⟨m, 11, none⟩ (.int .i64 ru)).setCell ⟨m, 12, none⟩ (.int .i64 rd_)) := ⟨_, rfl⟩
        rw [← hw_]
        have HM11 := Aside0.mk (show w11.heap[m]? = some (.cells #[.int .i64 2, .string s, .int .i64 n, .string ⟨#[]⟩, .string ⟨#[]⟩, .int .i64 0, .int .i64 0, .int .i64 0, .int .i64 0, .int .i64 e_, .slice A lN.length cA, .int .i64 ru, .int .i64 rd_] 40 (0, 0)) by rw [hw_]; exact (blk_put (blk_put HM10.out 11 _ rfl) 12 _ rfl))
        have HR11 := Aside0.mk (show w11.heap[w.heap.size]? = some (.cells #[.int .i64 0, .string ⟨#[]⟩, .int .i64 0, .string ⟨#[]⟩, .string ⟨#[]⟩, .int .i64 0, .int .i64 0, .int .i64 0, .int .i64 0, .int .i64 0, .slice none 0 0, .int .i64 0, .int .i64 0] 40 (0, 0)) by rw [hw_, Below.heap_setCell _ _ _ _ (by simp; omega), Below.heap_setCell _ _ _ _ (by simp; omega)]; exact HR10.out)
        have HU11 := Aside0.mk (show IsS75 w w11 (w.heap.size + 1) _ _ from ⟨by rw [hw_, Below.heap_setCell _ _ _ _ (by simp; omega), Below.heap_setCell _ _ _ _ (by simp; omega)]; exact HU10.out.1, by omega⟩)
        have HB11 := Aside0.mk (show Below w.heap.size w w11 by rw [hw_]; exact (below_set (below_set HB10.out (by omega)) (by omega)))
        have hz11 : w10.heap.size ≤ w11.heap.size := by rw [hw_]; simp
        have HO11 := Aside0.mk (show Kd.R (Kd.int .i64) 3 w11 w.heap.size (fun k => k ≠ w.heap.size ∧ k ≠ m) (.slice A lN.length cA) lN by rw [hw_]; exact Kd.R_far (Kd.R_far HO10.out (fun _ h => h.2) _) (fun _ h => h.2) _)
        clear HO10 hw_ HM10 HR10 HU10 HB10
        have kcHM0 : w11.cell? ⟨m, 0, none⟩ = some (.int .i64 2) := (blk_cell HM11.out 0).trans rfl
        have kfHM0 : w11.frozen? ⟨m, 0, none⟩ = false := blk_frozen HM11.out 0
        have kcHM1 : w11.cell? ⟨m, 1, none⟩ = some (.string s) := (blk_cell HM11.out 1).trans rfl
        have kfHM1 : w11.frozen? ⟨m, 1, none⟩ = false := blk_frozen HM11.out 1
        have kcHM2 : w11.cell? ⟨m, 2, none⟩ = some (.int .i64 n) := (blk_cell HM11.out 2).trans rfl
        have kfHM2 : w11.frozen? ⟨m, 2, none⟩ = false := blk_frozen HM11.out 2
        have kcHM3 : w11.cell? ⟨m, 3, none⟩ = some (.string ⟨#[]⟩) := (blk_cell HM11.out 3).trans rfl
        have kfHM3 : w11.frozen? ⟨m, 3, none⟩ = false := blk_frozen HM11.out 3
        have kcHM4 : w11.cell? ⟨m, 4, none⟩ = some (.string ⟨#[]⟩) := (blk_cell HM11.out 4).trans rfl
        have kfHM4 : w11.frozen? ⟨m, 4, none⟩ = false := blk_frozen HM11.out 4
        have kcHM5 : w11.cell? ⟨m, 5, none⟩ = some (.int .i64 0) := (blk_cell HM11.out 5).trans rfl
        have kfHM5 : w11.frozen? ⟨m, 5, none⟩ = false := blk_frozen HM11.out 5
        have kcHM6 : w11.cell? ⟨m, 6, none⟩ = some (.int .i64 0) := (blk_cell HM11.out 6).trans rfl
        have kfHM6 : w11.frozen? ⟨m, 6, none⟩ = false := blk_frozen HM11.out 6
        have kcHM7 : w11.cell? ⟨m, 7, none⟩ = some (.int .i64 0) := (blk_cell HM11.out 7).trans rfl
        have kfHM7 : w11.frozen? ⟨m, 7, none⟩ = false := blk_frozen HM11.out 7
        have kcHM8 : w11.cell? ⟨m, 8, none⟩ = some (.int .i64 0) := (blk_cell HM11.out 8).trans rfl
        have kfHM8 : w11.frozen? ⟨m, 8, none⟩ = false := blk_frozen HM11.out 8
        have kcHM9 : w11.cell? ⟨m, 9, none⟩ = some (.int .i64 e_) := (blk_cell HM11.out 9).trans rfl
        have kfHM9 : w11.frozen? ⟨m, 9, none⟩ = false := blk_frozen HM11.out 9
        have kcHM10 : w11.cell? ⟨m, 10, none⟩ = some (.slice A lN.length cA) := (blk_cell HM11.out 10).trans rfl
        have kfHM10 : w11.frozen? ⟨m, 10, none⟩ = false := blk_frozen HM11.out 10
        have kcHM11 : w11.cell? ⟨m, 11, none⟩ = some (.int .i64 ru) := (blk_cell HM11.out 11).trans rfl
        have kfHM11 : w11.frozen? ⟨m, 11, none⟩ = false := blk_frozen HM11.out 11
        have kcHM12 : w11.cell? ⟨m, 12, none⟩ = some (.int .i64 rd_) := (blk_cell HM11.out 12).trans rfl
        have kfHM12 : w11.frozen? ⟨m, 12, none⟩ = false := blk_frozen HM11.out 12
        have kcHR0 : w11.cell? ⟨w.heap.size, 0, none⟩ = some (.int .i64 0) := (blk_cell HR11.out 0).trans rfl
        have kfHR0 : w11.frozen? ⟨w.heap.size, 0, none⟩ = false := blk_frozen HR11.out 0
        have kcHR1 : w11.cell? ⟨w.heap.size, 1, none⟩ = some (.string ⟨#[]⟩) := (blk_cell HR11.out 1).trans rfl
        have kfHR1 : w11.frozen? ⟨w.heap.size, 1, none⟩ = false := blk_frozen HR11.out 1
        have kcHR2 : w11.cell? ⟨w.heap.size, 2, none⟩ = some (.int .i64 0) := (blk_cell HR11.out 2).trans rfl
        have kfHR2 : w11.frozen? ⟨w.heap.size, 2, none⟩ = false := blk_frozen HR11.out 2
        have kcHR3 : w11.cell? ⟨w.heap.size, 3, none⟩ = some (.string ⟨#[]⟩) := (blk_cell HR11.out 3).trans rfl
        have kfHR3 : w11.frozen? ⟨w.heap.size, 3, none⟩ = false := blk_frozen HR11.out 3
        have kcHR4 : w11.cell? ⟨w.heap.size, 4, none⟩ = some (.string ⟨#[]⟩) := (blk_cell HR11.out 4).trans rfl
        have kfHR4 : w11.frozen? ⟨w.heap.size, 4, none⟩ = false := blk_frozen HR11.out 4
        have kcHR5 : w11.cell? ⟨w.heap.size, 5, none⟩ = some (.int .i64 0) := (blk_cell HR11.out 5).trans rfl
        have kfHR5 : w11.frozen? ⟨w.heap.size, 5, none⟩ = false := blk_frozen HR11.out 5
        have kcHR6 : w11.cell? ⟨w.heap.size, 6, none⟩ = some (.int .i64 0) := (blk_cell HR11.out 6).trans rfl
        have kfHR6 : w11.frozen? ⟨w.heap.size, 6, none⟩ = false := blk_frozen HR11.out 6
        have kcHR7 : w11.cell? ⟨w.heap.size, 7, none⟩ = some (.int .i64 0) := (blk_cell HR11.out 7).trans rfl
        have kfHR7 : w11.frozen? ⟨w.heap.size, 7, none⟩ = false := blk_frozen HR11.out 7
        have kcHR8 : w11.cell? ⟨w.heap.size, 8, none⟩ = some (.int .i64 0) := (blk_cell HR11.out 8).trans rfl
        have kfHR8 : w11.frozen? ⟨w.heap.size, 8, none⟩ = false := blk_frozen HR11.out 8
        have kcHR9 : w11.cell? ⟨w.heap.size, 9, none⟩ = some (.int .i64 0) := (blk_cell HR11.out 9).trans rfl
        have kfHR9 : w11.frozen? ⟨w.heap.size, 9, none⟩ = false := blk_frozen HR11.out 9
        have kcHR10 : w11.cell? ⟨w.heap.size, 10, none⟩ = some (.slice none 0 0) := (blk_cell HR11.out 10).trans rfl
        have kfHR10 : w11.frozen? ⟨w.heap.size, 10, none⟩ = false := blk_frozen HR11.out 10
        have kcHR11 : w11.cell? ⟨w.heap.size, 11, none⟩ = some (.int .i64 0) := (blk_cell HR11.out 11).trans rfl
        have kfHR11 : w11.frozen? ⟨w.heap.size, 11, none⟩ = false := blk_frozen HR11.out 11
        have kcHR12 : w11.cell? ⟨w.heap.size, 12, none⟩ = some (.int .i64 0) := (blk_cell HR11.out 12).trans rfl
        have kfHR12 : w11.frozen? ⟨w.heap.size, 12, none⟩ = false := blk_frozen HR11.out 12
        have kb0 : w11.cell? ⟨w.heap.size + 1, 0, none⟩ = some (.string b8) := (blk_cell HU11.out.1 0).trans rfl
        have kb1 : w11.cell? ⟨w.heap.size + 1, 1, none⟩ = some (.bool d8) := (blk_cell HU11.out.1 1).trans rfl
        cases d8 with
        | true =>
          have HV := Aside0.mk (show wire_Unpack.finv b8 true (2, s, n, ⟨#[]⟩, ⟨#[]⟩, 0, 0, 0, 0, e_, lN, ru, rd_, 0) = wire_Unpack.no 2 from rfl)
          go_wp2
          exact bodyPost_ret (v := .tuple #[.agg #[.int .i64 0, .string ⟨#[]⟩, .int .i64 0, .string ⟨#[]⟩, .string ⟨#[]⟩, .int .i64 0, .int .i64 0, .int .i64 0, .int .i64 0, .int .i64 0, .slice none 0 0, .int .i64 0, .int .i64 0], .int .i64 2]) (by simp [results, Try.results14, go_sem, *]) rfl (un_post_of HV.out ⟨_, rfl, Kd.R_nil _ _ _ _ _, (by (repeat (refine below_set ?_ (by omega))); exact HB11.out)⟩)
        | false =>
          by_cases he : b8.toList = []
          · have he0 : (b8.toList == ([] : List UInt8)) = true := beq_iff_eq.mpr he
            have he1 : (b8.toList != ([] : List UInt8)) = false := bne_eq_false_iff_eq.mpr he
            have HV := Aside0.mk (show wire_Unpack.finv b8 false (2, s, n, ⟨#[]⟩, ⟨#[]⟩, 0, 0, 0, 0, e_, lN, ru, rd_, 0) = (2, s, n, ⟨#[]⟩, ⟨#[]⟩, 0, 0, 0, 0, e_, lN, ru, rd_, 0) by rw [wire_Unpack.finv, if_neg (by decide), if_pos he])
            clear he
            go_wp2
            exact bodyPost_ret (v := .tuple #[.agg #[.int .i64 2, .string s, .int .i64 n, .string ⟨#[]⟩, .string ⟨#[]⟩, .int .i64 0, .int .i64 0, .int .i64 0, .int .i64 0, .int .i64 e_, .slice A lN.length cA, .int .i64 ru, .int .i64 rd_], .int .i64 0]) (by simp [results, Try.results14, go_sem, *]) rfl (un_post_of HV.out ⟨_, rfl, Kd.R_mono (ok := fun k => k ≠ w.heap.size ∧ k ≠ m) (by (repeat (refine Kd.R_far ?_ (fun _ h => h.1) _)); exact HO11.out) (fun _ _ => trivial), (by (repeat (refine below_set ?_ (by omega))); exact HB11.out)⟩)
          · have he0 : (b8.toList == ([] : List UInt8)) = false := beq_eq_false_iff_ne.mpr he
            have he1 : (b8.toList != ([] : List UInt8)) = true := bne_iff_ne.mpr he
            have HV := Aside0.mk (show wire_Unpack.finv b8 false (2, s, n, ⟨#[]⟩, ⟨#[]⟩, 0, 0, 0, 0, e_, lN, ru, rd_, 0) = wire_Unpack.no 2 by rw [wire_Unpack.finv, if_neg (by decide), if_neg he])
            clear he
            go_wp2
            exact bodyPost_ret (v := .tuple #[.agg #[.int .i64 0, .string ⟨#[]⟩, .int .i64 0, .string ⟨#[]⟩, .string ⟨#[]⟩, .int .i64 0, .int .i64 0, .int .i64 0, .int .i64 0, .int .i64 0, .slice none 0 0, .int .i64 0, .int .i64 0], .int .i64 2]) (by simp [results, Try.results14, go_sem, *]) rfl (un_post_of HV.out ⟨_, rfl, Kd.R_nil _ _ _ _ _, (by (repeat (refine below_set ?_ (by omega))); exact HB11.out)⟩)

      | false =>
        obtain ⟨f', z1, z2, z3, hz, hl, hv⟩ := un_vals_go HV.out hlt
        have HZ := Aside0.mk hz
        have HVn := Aside0.mk hv
        have hln := Aside0.mk hl
        have hlen : (l.map (fun x => Value.int .i64 x)).length = l.length := List.length_map ..
        clear hz hv hl HV
        go_wp2_with fail
        clear kb1
        have kc9 : wr.cell? ⟨m, 10, none⟩ = some (.slice A l.length cA) := (blk_cell HM9.out 10).trans rfl
        go_region_law (first
          | (go_simp
             go_at_call 35
             refine (wire_unpacker_number.calls f' _ _ _ z1 z2 z3 w wr.drew HU9.out (below_drew1 HB9.out) HZ.out).mono ?_
             rintro e w10 ⟨rfl, hu_, hb_, hk_⟩
             have HU10 := Aside0.mk hu_
             have HB10 := Aside0.mk hb_
             have HR10 := Aside0.mk (hk_.blk HR9.out (by omega) (by simp))
             have HM10 := Aside0.mk (hk_.blk HM9.out (by omega) (by simp))
             have HO10 := Aside0.mk (hk_.own HO9.out hv3 (Classical.em _))
             have hz10 : wr.heap.size ≤ w10.heap.size := hk_.1
             have kc10 : w10.cell? ⟨m, 10, none⟩ = some (.slice A l.length cA) := (blk_cell HM10.out 10).trans rfl
             have kca10 : (w10.alloc (Obj.cells #[Value.int IntKind.i64 z1] 3)).cell? ⟨m, 10, none⟩ = some (.slice A l.length cA) := (blk_cell (blk_alloc HM10.out _) 10).trans rfl
             have kn1 : m ≠ w10.heap.size := by omega
             have kn2 : ¬ m = w10.heap.size := by omega
             clear hu_ hb_ hk_
             dsimp only)
          | ((refine step_append_lies _ (by rfl) _ _ _ (by rfl) w.heap.size 3 i0 (.int .i64 0) 1 8 Try.underlying32 hi0 hz00 hz01 hz02 rfl (by omega) (.slice A l.length cA) l.length (l.map (fun x => Value.int .i64 x)) (by rfl) (HO10.out.alloc _) ⟨w10.heap.size, 0, none⟩ 1 1 [.int .i64 z1] (by rfl) (by rfl) (World.news_of_block (cs := #[.int .i64 z1]) (t := 3) (fr := (0, 0)) (heap_alloc_new w10 _)) (by simp [Value.oneCell']) (by omega) (by have := hln.out; unfold maxLen; omega) (by have := hln.out; omega) (by have := HB10.out.size; simp; omega) (w10.heap.size + 1) (by simp) ?_)
             intro gg cap w11 hown1 hgrow hat hlg
             have HM11 := Aside0.mk (show w11.heap[m]? = some (.cells #[.int .i64 2, .string s, .int .i64 n, .string ⟨#[]⟩, .string ⟨#[]⟩, .int .i64 0, .int .i64 0, .int .i64 0, .int .i64 0, .int .i64 e_, .slice A l.length cA, .int .i64 0, .int .i64 0] 40 (0, 0)) from blk_grown (blk_alloc HM10.out _) hgrow (Ne.symm hv1))
             have kc11 : w11.cell? ⟨m, 10, none⟩ = some (.slice A l.length cA) := (blk_cell HM11.out 10).trans rfl
             have kf11 : w11.frozen? ⟨m, 10, none⟩ = false := blk_frozen HM11.out 10))
        all_goals (
          obtain ⟨w12, hw_⟩ : ∃ w', w' = w11.setCell ⟨m, 10, none⟩ (.slice (some ⟨gg, 0, none⟩) (l.length + 1) cap) := ⟨_, rfl⟩
          rw [← hw_]
          have hz12 : w10.heap.size + 1 ≤ w12.heap.size := by rw [hw_]; have := hgrow.size; simp at this ⊢; omega
          have HM12 := Aside0.mk (show w12.heap[m]? = some (.cells #[.int .i64 2, .string s, .int .i64 n, .string ⟨#[]⟩, .string ⟨#[]⟩, .int .i64 0, .int .i64 0, .int .i64 0, .int .i64 0, .int .i64 e_, .slice (some ⟨gg, 0, none⟩) (l.length + 1) cap, .int .i64 0, .int .i64 0] 40 (0, 0)) by rw [hw_]; exact blk_put HM11.out 10 _ rfl)
          have HR12 := Aside0.mk (show w12.heap[w.heap.size]? = some (.cells #[.int .i64 0, .string ⟨#[]⟩, .int .i64 0, .string ⟨#[]⟩, .string ⟨#[]⟩, .int .i64 0, .int .i64 0, .int .i64 0, .int .i64 0, .int .i64 0, .slice none 0 0, .int .i64 0, .int .i64 0] 40 (0, 0)) by rw [hw_, Below.heap_setCell _ _ _ _ (by simp; omega)]; exact blk_grown (blk_alloc HR10.out _) hgrow (Ne.symm hv2))
          have HU12 := Aside0.mk (show IsS75 w w12 (w.heap.size + 1) z2 z3 from ⟨by rw [hw_, Below.heap_setCell _ _ _ _ (by simp; omega)]; exact blk_grown (blk_alloc HU10.out.1 _) hgrow (Ne.symm hv3), by omega⟩)
          have HB12 := Aside0.mk (show Below w.heap.size w w12 by rw [hw_]; exact below_set ((below_alloc HB10.out _).grown hgrow (by have := HB10.out.size; simp; omega) (fun k hk => own_base HO10.out k hk)) (by omega))
          have hgm : gg ≠ m ∧ gg ≠ w.heap.size ∧ gg ≠ w.heap.size + 1 := by
            rcases hat with h | h
            · exact ⟨fun e => hv1 (by rw [h, e]), fun e => hv2 (by rw [h, e]), fun e => hv3 (by rw [h, e])⟩
            · omega
          have HO12 := Aside0.mk (show w12.ownsRow w.heap.size 3 1 (.slice (some ⟨gg, 0, none⟩) (l.length + 1) cap) (l ++ [z1]).length ((l ++ [z1]).map (fun x => Value.int .i64 x)) by rw [hw_, List.length_append, List.map_append]; exact own_move hown1 (fun k hk => Below.heap_setCell _ _ _ _ (by simp [Value.ownBlock] at hk; subst hk; simp; exact hgm.1)))
          clear hw_ hown1 hgrow hat HM11 kc11 kf11 HU10 HB10 HR10 HM10 HO10 kc10 kca10 kn1 kn2 kc9 HU9 HM9 HR9 HB9 HO9 HZ
          go_wp2_with fail
          go_roundw
          case rel => exact ⟨c6 - 1, z2, z3, l ++ [z1], .slice (some ⟨gg, 0, none⟩) (l.length + 1) cap, f', by go_num, by omega, by omega, HVn, HU12, HM12, HR12, HB12, HO12, by simp [Value.ownBlock]; exact hgm.1, by simp [Value.ownBlock]; exact hgm.2.1, by simp [Value.ownBlock]; exact hgm.2.2, by omega, by omega⟩
          case measure => simp [intOf]; omega)
    · obtain ⟨rfl, rfl, rfl⟩ := un_vals_end0 HV.out hlt
      clear HV
      go_wp2_with fail
      clear kb1
      refine (wire_unpacker_ratio.calls k _ _ _ ru rd_ b8 d8 w _ HU9.out HB9.out H8.out).mono ?_
      rintro e w10 ⟨rfl, hu_, hb_, hk_⟩
      have HU10 := Aside0.mk hu_
      have HB10 := Aside0.mk hb_
      have HR10 := Aside0.mk (hk_.blk HR9.out (by omega) (by simp))
      have HM10 := Aside0.mk (hk_.blk HM9.out (by omega) (by simp))
      have HO10 := Aside0.mk (show Kd.R (Kd.int .i64) 3 w10 w.heap.size (fun k => k ≠ w.heap.size ∧ k ≠ m) (.slice A lN.length cA) lN from Kd.R_of_own (hk_.own HO9.out hv3 (Classical.em _)) (fun k hk => ⟨fun e => hv2 (by rw [hk, e]), fun e => hv1 (by rw [hk, e])⟩))
      have hz10 := hk_.1
      clear hu_ hb_ hk_ HU9 HB9 HR9 HM9 HO9 H8
      have kcHM11 : w10.cell? ⟨m, 11, none⟩ = some (.int .i64 0) := (blk_cell HM10.out 11).trans rfl
      have kfHM11 : w10.frozen? ⟨m, 11, none⟩ = false := blk_frozen HM10.out 11
      have kcHM12 : w10.cell? ⟨m, 12, none⟩ = some (.int .i64 0) := (blk_cell HM10.out 12).trans rfl
      have kfHM12 : w10.frozen? ⟨m, 12, none⟩ = false := blk_frozen HM10.out 12
      go_upto_region 18 with (fail)
      clear kcHM11 kfHM11 kcHM12 kfHM12
      obtain ⟨w11, hw_⟩ : ∃ w', w' = ((w10.setCell ⟨m, 11, none⟩ (.int .i64 ru)).setCell ⟨m, 12, none⟩ (.int .i64 rd_)) := ⟨_, rfl⟩
      rw [← hw_]
      have HM11 := Aside0.mk (show w11.heap[m]? = some (.cells #[.int .i64 2, .string s, .int .i64 n, .string ⟨#[]⟩, .string ⟨#[]⟩, .int .i64 0, .int .i64 0, .int .i64 0, .int .i64 0, .int .i64 e_, .slice A lN.length cA, .int .i64 ru, .int .i64 rd_] 40 (0, 0)) by rw [hw_]; exact (blk_put (blk_put HM10.out 11 _ rfl) 12 _ rfl))
      have HR11 := Aside0.mk (show w11.heap[w.heap.size]? = some (.cells #[.int .i64 0, .string ⟨#[]⟩, .int .i64 0, .string ⟨#[]⟩, .string ⟨#[]⟩, .int .i64 0, .int .i64 0, .int .i64 0, .int .i64 0, .int .i64 0, .slice none 0 0, .int .i64 0, .int .i64 0] 40 (0, 0)) by rw [hw_, Below.heap_setCell _ _ _ _ (by simp; omega), Below.heap_setCell _ _ _ _ (by simp; omega)]; exact HR10.out)
      have HU11 := Aside0.mk (show IsS75 w w11 (w.heap.size + 1) _ _ from ⟨by rw [hw_, Below.heap_setCell _ _ _ _ (by simp; omega), Below.heap_setCell _ _ _ _ (by simp; omega)]; exact HU10.out.1, by omega⟩)
      have HB11 := Aside0.mk (show Below w.heap.size w w11 by rw [hw_]; exact (below_set (below_set HB10.out (by omega)) (by omega)))
      have hz11 : w10.heap.size ≤ w11.heap.size := by rw [hw_]; simp
      have HO11 := Aside0.mk (show Kd.R (Kd.int .i64) 3 w11 w.heap.size (fun k => k ≠ w.heap.size ∧ k ≠ m) (.slice A lN.length cA) lN by rw [hw_]; exact Kd.R_far (Kd.R_far HO10.out (fun _ h => h.2) _) (fun _ h => h.2) _)
      clear HO10 hw_ HM10 HR10 HU10 HB10
      have kcHM0 : w11.cell? ⟨m, 0, none⟩ = some (.int .i64 2) := (blk_cell HM11.out 0).trans rfl
      have kfHM0 : w11.frozen? ⟨m, 0, none⟩ = false := blk_frozen HM11.out 0
      have kcHM1 : w11.cell? ⟨m, 1, none⟩ = some (.string s) := (blk_cell HM11.out 1).trans rfl
      have kfHM1 : w11.frozen? ⟨m, 1, none⟩ = false := blk_frozen HM11.out 1
      have kcHM2 : w11.cell? ⟨m, 2, none⟩ = some (.int .i64 n) := (blk_cell HM11.out 2).trans rfl
      have kfHM2 : w11.frozen? ⟨m, 2, none⟩ = false := blk_frozen HM11.out 2
      have kcHM3 : w11.cell? ⟨m, 3, none⟩ = some (.string ⟨#[]⟩) := (blk_cell HM11.out 3).trans rfl
      have kfHM3 : w11.frozen? ⟨m, 3, none⟩ = false := blk_frozen HM11.out 3
      have kcHM4 : w11.cell? ⟨m, 4, none⟩ = some (.string ⟨#[]⟩) := (blk_cell HM11.out 4).trans rfl
      have kfHM4 : w11.frozen? ⟨m, 4, none⟩ = false := blk_frozen HM11.out 4
      have kcHM5 : w11.cell? ⟨m, 5, none⟩ = some (.int .i64 0) := (blk_cell HM11.out 5).trans rfl
      have kfHM5 : w11.frozen? ⟨m, 5, none⟩ = false := blk_frozen HM11.out 5
      have kcHM6 : w11.cell? ⟨m, 6, none⟩ = some (.int .i64 0) := (blk_cell HM11.out 6).trans rfl
      have kfHM6 : w11.frozen? ⟨m, 6, none⟩ = false := blk_frozen HM11.out 6
      have kcHM7 : w11.cell? ⟨m, 7, none⟩ = some (.int .i64 0) := (blk_cell HM11.out 7).trans rfl
      have kfHM7 : w11.frozen? ⟨m, 7, none⟩ = false := blk_frozen HM11.out 7
      have kcHM8 : w11.cell? ⟨m, 8, none⟩ = some (.int .i64 0) := (blk_cell HM11.out 8).trans rfl
      have kfHM8 : w11.frozen? ⟨m, 8, none⟩ = false := blk_frozen HM11.out 8
      have kcHM9 : w11.cell? ⟨m, 9, none⟩ = some (.int .i64 e_) := (blk_cell HM11.out 9).trans rfl
      have kfHM9 : w11.frozen? ⟨m, 9, none⟩ = false := blk_frozen HM11.out 9
      have kcHM10 : w11.cell? ⟨m, 10, none⟩ = some (.slice A lN.length cA) := (blk_cell HM11.out 10).trans rfl
      have kfHM10 : w11.frozen? ⟨m, 10, none⟩ = false := blk_frozen HM11.out 10
      have kcHM11 : w11.cell? ⟨m, 11, none⟩ = some (.int .i64 ru) := (blk_cell HM11.out 11).trans rfl
      have kfHM11 : w11.frozen? ⟨m, 11, none⟩ = false := blk_frozen HM11.out 11
      have kcHM12 : w11.cell? ⟨m, 12, none⟩ = some (.int .i64 rd_) := (blk_cell HM11.out 12).trans rfl
      have kfHM12 : w11.frozen? ⟨m, 12, none⟩ = false := blk_frozen HM11.out 12
      have kcHR0 : w11.cell? ⟨w.heap.size, 0, none⟩ = some (.int .i64 0) := (blk_cell HR11.out 0).trans rfl
      have kfHR0 : w11.frozen? ⟨w.heap.size, 0, none⟩ = false := blk_frozen HR11.out 0
      have kcHR1 : w11.cell? ⟨w.heap.size, 1, none⟩ = some (.string ⟨#[]⟩) := (blk_cell HR11.out 1).trans rfl
      have kfHR1 : w11.frozen? ⟨w.heap.size, 1, none⟩ = false := blk_frozen HR11.out 1
      have kcHR2 : w11.cell? ⟨w.heap.size, 2, none⟩ = some (.int .i64 0) := (blk_cell HR11.out 2).trans rfl
      have kfHR2 : w11.frozen? ⟨w.heap.size, 2, none⟩ = false := blk_frozen HR11.out 2
      have kcHR3 : w11.cell? ⟨w.heap.size, 3, none⟩ = some (.string ⟨#[]⟩) := (blk_cell HR11.out 3).trans rfl
      have kfHR3 : w11.frozen? ⟨w.heap.size, 3, none⟩ = false := blk_frozen HR11.out 3
      have kcHR4 : w11.cell? ⟨w.heap.size, 4, none⟩ = some (.string ⟨#[]⟩) := (blk_cell HR11.out 4).trans rfl
      have kfHR4 : w11.frozen? ⟨w.heap.size, 4, none⟩ = false := blk_frozen HR11.out 4
      have kcHR5 : w11.cell? ⟨w.heap.size, 5, none⟩ = some (.int .i64 0) := (blk_cell HR11.out 5).trans rfl
      have kfHR5 : w11.frozen? ⟨w.heap.size, 5, none⟩ = false := blk_frozen HR11.out 5
      have kcHR6 : w11.cell? ⟨w.heap.size, 6, none⟩ = some (.int .i64 0) := (blk_cell HR11.out 6).trans rfl
      have kfHR6 : w11.frozen? ⟨w.heap.size, 6, none⟩ = false := blk_frozen HR11.out 6
      have kcHR7 : w11.cell? ⟨w.heap.size, 7, none⟩ = some (.int .i64 0) := (blk_cell HR11.out 7).trans rfl
      have kfHR7 : w11.frozen? ⟨w.heap.size, 7, none⟩ = false := blk_frozen HR11.out 7
      have kcHR8 : w11.cell? ⟨w.heap.size, 8, none⟩ = some (.int .i64 0) := (blk_cell HR11.out 8).trans rfl
      have kfHR8 : w11.frozen? ⟨w.heap.size, 8, none⟩ = false := blk_frozen HR11.out 8
      have kcHR9 : w11.cell? ⟨w.heap.size, 9, none⟩ = some (.int .i64 0) := (blk_cell HR11.out 9).trans rfl
      have kfHR9 : w11.frozen? ⟨w.heap.size, 9, none⟩ = false := blk_frozen HR11.out 9
      have kcHR10 : w11.cell? ⟨w.heap.size, 10, none⟩ = some (.slice none 0 0) := (blk_cell HR11.out 10).trans rfl
      have kfHR10 : w11.frozen? ⟨w.heap.size, 10, none⟩ = false := blk_frozen HR11.out 10
      have kcHR11 : w11.cell? ⟨w.heap.size, 11, none⟩ = some (.int .i64 0) := (blk_cell HR11.out 11).trans rfl
      have kfHR11 : w11.frozen? ⟨w.heap.size, 11, none⟩ = false := blk_frozen HR11.out 11
      have kcHR12 : w11.cell? ⟨w.heap.size, 12, none⟩ = some (.int .i64 0) := (blk_cell HR11.out 12).trans rfl
      have kfHR12 : w11.frozen? ⟨w.heap.size, 12, none⟩ = false := blk_frozen HR11.out 12
      have kb0 : w11.cell? ⟨w.heap.size + 1, 0, none⟩ = some (.string b8) := (blk_cell HU11.out.1 0).trans rfl
      have kb1 : w11.cell? ⟨w.heap.size + 1, 1, none⟩ = some (.bool d8) := (blk_cell HU11.out.1 1).trans rfl
      cases d8 with
      | true =>
        have HV := Aside0.mk (show wire_Unpack.finv b8 true (2, s, n, ⟨#[]⟩, ⟨#[]⟩, 0, 0, 0, 0, e_, lN, ru, rd_, 0) = wire_Unpack.no 2 from rfl)
        go_wp2
        exact bodyPost_ret (v := .tuple #[.agg #[.int .i64 0, .string ⟨#[]⟩, .int .i64 0, .string ⟨#[]⟩, .string ⟨#[]⟩, .int .i64 0, .int .i64 0, .int .i64 0, .int .i64 0, .int .i64 0, .slice none 0 0, .int .i64 0, .int .i64 0], .int .i64 2]) (by simp [results, Try.results14, go_sem, *]) rfl (un_post_of HV.out ⟨_, rfl, Kd.R_nil _ _ _ _ _, (by (repeat (refine below_set ?_ (by omega))); exact HB11.out)⟩)
      | false =>
        by_cases he : b8.toList = []
        · have he0 : (b8.toList == ([] : List UInt8)) = true := beq_iff_eq.mpr he
          have he1 : (b8.toList != ([] : List UInt8)) = false := bne_eq_false_iff_eq.mpr he
          have HV := Aside0.mk (show wire_Unpack.finv b8 false (2, s, n, ⟨#[]⟩, ⟨#[]⟩, 0, 0, 0, 0, e_, lN, ru, rd_, 0) = (2, s, n, ⟨#[]⟩, ⟨#[]⟩, 0, 0, 0, 0, e_, lN, ru, rd_, 0) by rw [wire_Unpack.finv, if_neg (by decide), if_pos he])
          clear he
          go_wp2
          exact bodyPost_ret (v := .tuple #[.agg #[.int .i64 2, .string s, .int .i64 n, .string ⟨#[]⟩, .string ⟨#[]⟩, .int .i64 0, .int .i64 0, .int .i64 0, .int .i64 0, .int .i64 e_, .slice A lN.length cA, .int .i64 ru, .int .i64 rd_], .int .i64 0]) (by simp [results, Try.results14, go_sem, *]) rfl (un_post_of HV.out ⟨_, rfl, Kd.R_mono (ok := fun k => k ≠ w.heap.size ∧ k ≠ m) (by (repeat (refine Kd.R_far ?_ (fun _ h => h.1) _)); exact HO11.out) (fun _ _ => trivial), (by (repeat (refine below_set ?_ (by omega))); exact HB11.out)⟩)
        · have he0 : (b8.toList == ([] : List UInt8)) = false := beq_eq_false_iff_ne.mpr he
          have he1 : (b8.toList != ([] : List UInt8)) = true := bne_iff_ne.mpr he
          have HV := Aside0.mk (show wire_Unpack.finv b8 false (2, s, n, ⟨#[]⟩, ⟨#[]⟩, 0, 0, 0, 0, e_, lN, ru, rd_, 0) = wire_Unpack.no 2 by rw [wire_Unpack.finv, if_neg (by decide), if_neg he])
          clear he
          go_wp2
          exact bodyPost_ret (v := .tuple #[.agg #[.int .i64 0, .string ⟨#[]⟩, .int .i64 0, .string ⟨#[]⟩, .string ⟨#[]⟩, .int .i64 0, .int .i64 0, .int .i64 0, .int .i64 0, .int .i64 0, .slice none 0 0, .int .i64 0, .int .i64 0], .int .i64 2]) (by simp [results, Try.results14, go_sem, *]) rfl (un_post_of HV.out ⟨_, rfl, Kd.R_nil _ _ _ _ _, (by (repeat (refine below_set ?_ (by omega))); exact HB11.out)⟩)

theorem un_fin (b : ByteArray) (d : Bool) (m : UnM) : wire_Unpack.fin b d m = some (wire_Unpack.finv b d m) := by
  unfold wire_Unpack.fin wire_Unpack.finv
  split
  · rfl
  · split <;> rfl
theorem wire_Unpack.mono_l : ∀ k, (∀ y0 y1 y2 y3, LeO (wire_Unpack.l0 k y0 y1 y2 y3) (wire_Unpack.l0 (k + 1) y0 y1 y2 y3))
  | 0 => fun _ _ _ _ => LeO.none _
  | k + 1 => fun n b d l => by
    rw [wire_Unpack.l0, wire_Unpack.l0]
    exact LeO.ite (LeO.ite (LeO.refl _) (LeO.bind (wire_unpacker_number.mono _ _ _) (fun _ => LeO.ite (wire_Unpack.mono_l k _ _ _ _) (LeO.refl _)))) (LeO.refl _)
theorem wire_Unpack.mono : ∀ a0 k, LeO (wire_Unpack.f k a0) (wire_Unpack.f (k + 1) a0) := by
  intro a0 k
  unfold wire_Unpack.f
  refine LeO.ite (LeO.refl _) (LeO.bind (LeO.refl _) fun _ => LeO.bind (wire_unpacker_text.mono _ _ _) fun _ => LeO.bind (wire_unpacker_number.mono _ _ _) fun _ => LeO.ite ?_ (LeO.ite ?_ (LeO.refl _)))
  · exact LeO.bind (wire_unpacker_text.mono _ _ _) fun _ => LeO.bind (wire_unpacker_text.mono _ _ _) fun _ => LeO.bind (wire_unpacker_ratio.mono _ _ _) fun _ => LeO.bind (wire_unpacker_number.mono _ _ _) fun _ => LeO.bind (wire_unpacker_number.mono _ _ _) fun _ => LeO.refl _
  · exact LeO.bind (wire_unpacker_number.mono _ _ _) fun _ => LeO.bind (wire_unpacker_count.mono _ _ _) fun _ => LeO.ite (LeO.bind (wire_Unpack.mono_l _ _ _ _ _) fun _ => LeO.bind (wire_unpacker_ratio.mono _ _ _) fun _ => LeO.refl _) (LeO.refl _)
theorem un_all (k : Nat) (a0 : ByteArray) (r : UnM) (w : World) (h : wire_Unpack.f k a0 = some r) : Calls Try.prog 14 #[.string a0] w (un_post w r) := by
  unfold wire_Unpack.f at h
  by_cases hsz : (a0.size : Int) > 65536
  · rw [if_pos hsz] at h
    cases h
    exact un_big a0 hsz w
  · rw [if_neg hsz] at h
    obtain ⟨⟨c, b1, d1⟩, h1, h⟩ := Option.bind_eq_some_iff.mp h
    obtain ⟨⟨s, b2, d2⟩, h2, h⟩ := Option.bind_eq_some_iff.mp h
    obtain ⟨⟨n, b3, d3⟩, h3, h⟩ := Option.bind_eq_some_iff.mp h
    dsimp only at h1 h2 h3 h
    by_cases hc1 : c = 1
    · rw [if_pos hc1] at h
      obtain ⟨⟨p, b4, d4⟩, h4, h⟩ := Option.bind_eq_some_iff.mp h
      obtain ⟨⟨t, b5, d5⟩, h5, h⟩ := Option.bind_eq_some_iff.mp h
      obtain ⟨⟨ru, rd_, b6, d6⟩, h6, h⟩ := Option.bind_eq_some_iff.mp h
      obtain ⟨⟨lo, b7, d7⟩, h7, h⟩ := Option.bind_eq_some_iff.mp h
      obtain ⟨⟨hi, b8, d8⟩, h8, h⟩ := Option.bind_eq_some_iff.mp h
      dsimp only at h4 h5 h6 h7 h8 h
      rw [un_fin, hc1] at h
      obtain rfl := Option.some.inj h
      exact un_c1 k a0 w hsz c b1 d1 h1 s b2 d2 h2 n b3 d3 h3 hc1 p b4 d4 h4 t b5 d5 h5 ru rd_ b6 d6 h6 lo b7 d7 h7 hi b8 d8 h8
    · rw [if_neg hc1] at h
      by_cases hc2 : c = 2
      · rw [if_pos hc2] at h
        obtain ⟨⟨e_, b4, d4⟩, h4, h⟩ := Option.bind_eq_some_iff.mp h
        obtain ⟨⟨q, b5, d5⟩, h5, h⟩ := Option.bind_eq_some_iff.mp h
        dsimp only at h4 h5 h
        by_cases hq : 0 ≤ q ∧ q < 18446744073709551616
        · rw [if_pos hq] at h
          obtain ⟨⟨lN, bN, dN⟩, hV, h⟩ := Option.bind_eq_some_iff.mp h
          obtain ⟨⟨ru, rd_, b8, d8⟩, h8, h⟩ := Option.bind_eq_some_iff.mp h
          dsimp only at hV h8 h
          rw [un_fin, hc2] at h
          obtain rfl := Option.some.inj h
          exact un_c2 k a0 w hsz c b1 d1 h1 s b2 d2 h2 n b3 d3 h3 hc2 e_ b4 d4 h4 q b5 d5 h5 hq.1 hq.2 lN bN dN hV ru rd_ b8 d8 h8
        · rw [if_neg hq] at h
          cases h
      · rw [if_neg hc2, un_fin] at h
        obtain rfl := Option.some.inj h
        exact un_c3 k a0 w hsz c b1 d1 h1 s b2 d2 h2 n b3 d3 h3 ⟨hc1, hc2⟩
theorem wire_Unpack.calls (k : Nat) (a0 : ByteArray) (r1 : Int) (r2 : ByteArray) (r3 : Int) (r4 : ByteArray) (r5 : ByteArray) (r6 : Int) (r7 : Int) (r8 : Int) (r9 : Int) (r10 : Int) (r11 : List Int) (r12 : Int) (r13 : Int) (r14 : Int) (w : World) (h : wire_Unpack.f k a0 = some (r1, r2, r3, r4, r5, r6, r7, r8, r9, r10, r11, r12, r13, r14)) :
    Calls Try.prog 14 #[.string a0] w fun e w' => ∃ v10_ : Value, e = .returned (.tuple #[.agg #[.int .i64 r1, .string r2, .int .i64 r3, .string r4, .string r5, .int .i64 r6, .int .i64 r7, .int .i64 r8, .int .i64 r9, .int .i64 r10, v10_, .int .i64 r12, .int .i64 r13], .int .i64 r14]) ∧ Kd.R (Kd.int .i64) 3 w' w.heap.size (fun _ => True) v10_ r11 ∧ Below w.heap.size w w' := un_all k a0 _ w h


end Go.Proofs.Ytdfeidpkdbleaaa.PC

/- Functions of the translated program as Lean functions, and what their calls come to: written by this session's own program (wip/xprint.py) over the kit's print. Conditions stand in each theorem. -/
import Derived.Test.YtdfeidpkdbleaaaPCx0
import Derived.Test.YtdfeidpkdbleaaaPCx9
namespace Go.Proofs.Ytdfeidpkdbleaaa.PC
open Go.RowKit Go.Proofs.YtdfeidpkdbleaaaW.PrintWords Go.Proofs.YtdfeidpkdbleaaaW.PrintLast Go.Proofs.YtdfeidpkdbleaaaW.PrintMore
attribute [local go_sem] max2_int min2_int max_two min_two max_three min_three max_four min_four   -- for this text's walks alone
set_option linter.unusedVariables false
set_option linter.unusedSimpArgs false

/-! ### wire_Pack: function 12 -/
theorem pk_size : (Try.prog.info? 56).map (·.size) = some 2 := by kernel_rfl
theorem pk_lies : liesAt Try.prog Try.prog.depth 58 (2 / Try.prog.cellsOf 58) 0 56 1 = true := by kernel_rfl
theorem pk_byte : (Try.prog.info? 5).map (fun i => (i.zero, i.size, i.bytes)) = some (some (.int .u8 0), 1, 1) := by kernel_rfl
/-- What lies below B stays, and so does every row of another element than a byte, but the builder's own block. -/
def pkB (B b : Nat) (w w' : World) : Prop := Below B w w' ∧ ∀ k cs T fr, w.heap[k]? = some (.cells cs T fr) → T ≠ 5 → k ≠ b → w'.heap[k]? = some (.cells cs T fr)
theorem pkB.refl (B b : Nat) (w : World) : pkB B b w w := ⟨Below.refl B w, fun _ _ _ _ h _ _ => h⟩
theorem pkB.trans {B b : Nat} {w w1 w2 : World} (h : pkB B b w w1) (k : pkB B b w1 w2) : pkB B b w w2 := ⟨h.1.trans k.1, fun j cs T fr hj hT hb => k.2 j cs T fr (h.2 j cs T fr hj hT hb) hT hb⟩
theorem pkB.size {B b : Nat} {w w1 : World} (h : pkB B b w w1) : w.heap.size ≤ w1.heap.size := h.1.size
theorem pkB.set {B b : Nat} {w w1 : World} (h : pkB B b w w1) (hB : B ≤ b) (i : Nat) (u : Value) : pkB B b w (w1.setCell ⟨b, i, none⟩ u) := ⟨h.1.setCell (p := ⟨b, i, none⟩) hB _, fun j cs T fr hj hT hb => by rw [Below.heap_setCell _ _ _ _ (by simpa using hb)]; exact h.2 j cs T fr hj hT hb⟩
theorem pkB.alloc {B b : Nat} {w w1 : World} (h : pkB B b w w1) (hB : B ≤ w1.heap.size) (o : Obj) : pkB B b w (w1.alloc o) := ⟨h.1.alloc hB o, fun j cs T fr hj hT hb => blk_alloc (h.2 j cs T fr hj hT hb) o⟩
theorem pkB.grown {B b : Nat} {w w1 w2 : World} (h : pkB B b w w1) {v : Value} {n : Nat} {xs : List Value} (hown : w1.ownsRow B 5 1 v n xs) (hg : w1.grownBy w2 v.ownBlock) (hB : B ≤ w1.heap.size) : pkB B b w w2 :=
  ⟨h.1.grown hg hB (fun k hk => (hown.lt k hk).1), fun j cs T fr hj hT hb => by
    have hj1 := h.2 j cs T fr hj hT hb
    refine blk_grown hj1 hg (fun e => ?_)
    obtain ⟨cells, hc⟩ := Go.Proofs.YtdfeidpkdbleaaaW.PrintWords.own_typed hown j e.symm
    rw [hc] at hj1
    injection hj1 with hj1
    injection hj1 with _ hj1
    exact hT hj1.symm⟩
theorem pkB.new {B b : Nat} {w w1 : World} (o : Obj) (h : pkB B b (w.alloc o) w1) (hB : B ≤ w.heap.size) : pkB B b w w1 := (pkB.alloc (pkB.refl B b w) hB o).trans h
set_option maxHeartbeats 1000000 in
set_option maxRecDepth 100000 in
theorem pk_check_used (b : Nat) (w : World) (h0 : w.cell? ⟨b, 0, none⟩ = some (.pointer (some ⟨b, 0, none⟩))) :
    Calls Try.prog 41 #[.pointer (some ⟨b, 0, none⟩)] w fun e w' => e = .returned (.tuple #[]) ∧ w' = w := by
  obtain ⟨j, hj, _⟩ := Option.map_eq_some_iff.1 pk_size
  have u56 := Try.underlying56
  have u54 := Try.underlying54
  go_enter Try.func41, Try.ntmps41
  go_wp2
  rw [Lib.run_neq_ptr_same w _ Try.underlying54 hj]
  go_wp2
  go_end0
  exact ⟨rfl, rfl⟩
set_option maxHeartbeats 1000000 in
set_option maxRecDepth 100000 in
theorem pk_check_fresh (b : Nat) (w : World) (h0 : w.cell? ⟨b, 0, none⟩ = some (.pointer none)) (hsh : w.shape? b = some (58, 2)) (hfz : w.frozen? ⟨b, 0, none⟩ = false) :
    Calls Try.prog 41 #[.pointer (some ⟨b, 0, none⟩)] w fun e w' => e = .returned (.tuple #[]) ∧ w' = w.setCell ⟨b, 0, none⟩ (.pointer (some ⟨b, 0, none⟩)) := by
  obtain ⟨j, hj, hjs⟩ := Option.map_eq_some_iff.1 pk_size
  have u56 := Try.underlying56
  have u54 := Try.underlying54
  go_enter Try.func41, Try.ntmps41
  go_wp2
  rw [Lib.run_to_unsafe w ⟨b, 0, none⟩ Try.underlying54 Try.underlying90 hj (by rw [hjs]; decide) hsh (Nat.zero_lt_succ 1)]
  simp only [Result.andThen]
  rw [Oper.upon_value]
  go_wp2
  rw [run_callFunc_extern Try.func43 (by kernel_rfl) (by kernel_rfl) (by kernel_rfl) (e := Extern.AbiNoEscape.same) (by kernel_rfl)]
  rw [Lib.run_noEscape]
  simp only [Result.andThen]
  rw [Oper.upon_value]
  go_wp2
  rw [Lib.run_from_unsafe w ⟨b, 0, none⟩ Try.underlying90 Try.underlying54 hj hsh pk_lies]
  simp only [Result.andThen]
  rw [Oper.upon_value]
  go_wp2
  go_end0
  exact ⟨rfl, rfl⟩
theorem pk_check (B b : Nat) (bs : List Value) (w : World) (h : Lib.IsBuilder 58 5 B b bs w) :
    Calls Try.prog 41 #[.pointer (some ⟨b, 0, none⟩)] w fun e w' => e = .returned (.tuple #[]) ∧ (Lib.BuilderAt 58 5 B b (.pointer (some ⟨b, 0, none⟩)) bs w' ∧ pkB B b w w') := by
  rcases h with h | h
  · refine (pk_check_fresh b w h.cell0 h.shape h.frozen0).mono ?_
    rintro e w' ⟨rfl, rfl⟩
    exact ⟨rfl, h.used _, (pkB.refl B b w).set h.1 0 _⟩
  · refine (pk_check_used b w h.cell0).mono ?_
    rintro e w' ⟨rfl, rfl⟩
    exact ⟨rfl, h, pkB.refl B b _⟩
set_option maxHeartbeats 2000000 in
set_option maxRecDepth 100000 in
theorem pk_byteW (B b : Nat) (bs : List Value) (c : Int) (w : World) (h : Lib.IsBuilder 58 5 B b bs w) (hlen : bs.length + 1 ≤ 140737488355328) (hBw : B ≤ w.heap.size) :
    Calls Try.prog 21 #[.pointer (some ⟨b, 0, none⟩), .int .u8 c] w fun e w' => e = .returned .nilIface ∧ (Lib.IsBuilder 58 5 B b (bs ++ [.int .u8 c]) w' ∧ pkB B b w w') := by
  obtain ⟨i0, hi, hz0, hz1, hz2⟩ := info_parts pk_byte
  have u56 := Try.underlying56
  have u54 := Try.underlying54
  go_enter Try.func21, Try.ntmps21
  go_wp2_with (go_at_call 41; refine (pk_check B b bs _ h).mono ?_)
  rintro e w1 ⟨rfl, h1, hb1⟩
  obtain ⟨hB, v, hbk, hown, hne⟩ := h1
  have c0 : w1.cell? ⟨b, 0, none⟩ = some (.pointer (some ⟨b, 0, none⟩)) := by rw [Lib.cell_of_heap hbk]; rfl
  have c1 : w1.cell? ⟨b, 1, none⟩ = some v := by rw [Lib.cell_of_heap hbk]; rfl
  go_wp2_with (at_builtin; refine wpList_append_own _ rfl _ _ 51 rfl B 5 i0 (.int .u8 0) 1 1 Try.underlying51 hi hz0 hz1 hz2 rfl (by decide) _ _ _ rfl (hown.alloc _) ⟨w1.heap.size, 0, none⟩ 1 1 [.int .u8 c] rfl rfl ?c1 ?c2 ?c3 ?c4 ?c5 ?_)
  case c1 =>
    intro j u hj
    match j, hj with
    | 0, hj => simp at hj; subst hj; simp [Addr.add]
  case c2 => intro u hu; simp at hu; subst hu; rfl
  case c3 => unfold maxLen; omega
  case c4 => omega
  case c5 => have := hb1.size; simp; omega
  intro v' w2 hown' hgrow _
  have hlt : b < w1.heap.size := blk_lt hbk
  have hb2 : w2.heap[b]? = some (.cells #[.pointer (some ⟨b, 0, none⟩), v] 58 (0, 0)) := by
    rw [hgrow.block b (by simp; omega) (fun e => hne e.symm), Lib.alloc_old w1 _ b hlt]
    exact hbk
  have d0 : w2.cell? ⟨b, 0, none⟩ = some (.pointer (some ⟨b, 0, none⟩)) := by rw [Lib.cell_of_heap hb2]; rfl
  have d1 : w2.cell? ⟨b, 1, none⟩ = some v := by rw [Lib.cell_of_heap hb2]; rfl
  have f1 : w2.frozen? ⟨b, 1, none⟩ = false := Lib.frozen_of_heap hb2 1
  obtain ⟨g, cap, rfl⟩ : ∃ g cap, v' = .slice (some ⟨g, 0, none⟩) (bs.length + 1) cap := by
    rcases hown'.2 with ⟨_, h0⟩ | ⟨g, cap, cur, hv, _⟩
    · omega
    · exact ⟨g, cap, hv⟩
  go_wp2
  go_ret
  refine ⟨rfl, .inr ?_, ?_⟩
  · exact Lib.BuilderAt.put (T := 58) (e := 5) hB hb2 (bs' := bs ++ [.int .u8 c]) (by simpa using hown') (by decide)
  · exact ((hb1.alloc (by have := hb1.size; omega) _).grown (hown.alloc _) hgrow (by have := hb1.size; simp; omega)).set hB 1 _
set_option maxHeartbeats 2000000 in
set_option maxRecDepth 100000 in
theorem pk_strW (B b : Nat) (bs : List Value) (s : ByteArray) (w : World) (h : Lib.IsBuilder 58 5 B b bs w) (hlen : bs.length + s.size ≤ 140737488355328) (hBw : B ≤ w.heap.size) :
    Calls Try.prog 42 #[.pointer (some ⟨b, 0, none⟩), .string s] w fun e w' => e = .returned (.tuple #[.int .i64 s.size, .nilIface]) ∧ (Lib.IsBuilder 58 5 B b (bs ++ Lib.strCells s) w' ∧ pkB B b w w') := by
  obtain ⟨i0, hi, hz0, hz1, hz2⟩ := info_parts pk_byte
  have u56 := Try.underlying56
  have u54 := Try.underlying54
  go_enter Try.func42, Try.ntmps42
  go_wp2_with (go_at_call 41; refine (pk_check B b bs _ h).mono ?_)
  rintro e w1 ⟨rfl, h1, hb1⟩
  obtain ⟨hB, v, hbk, hown, hne⟩ := h1
  have c0 : w1.cell? ⟨b, 0, none⟩ = some (.pointer (some ⟨b, 0, none⟩)) := by rw [Lib.cell_of_heap hbk]; rfl
  have c1 : w1.cell? ⟨b, 1, none⟩ = some v := by rw [Lib.cell_of_heap hbk]; rfl
  go_wp2_with (at_builtin; refine Lib.wpList_append_own_string _ rfl _ _ 51 9 rfl B 5 i0 Try.underlying51 Try.underlying9 hi hz0 hz1 hz2 _ _ _ rfl hown s rfl ?c3 ?c4 ?c5 ?_)
  case c3 => unfold maxLen; omega
  case c4 => omega
  case c5 => have := hb1.size; omega
  intro v' w2 hown' hgrow _
  have hlt : b < w1.heap.size := blk_lt hbk
  have hb2 : w2.heap[b]? = some (.cells #[.pointer (some ⟨b, 0, none⟩), v] 58 (0, 0)) := by
    rw [hgrow.block b hlt (fun e => hne e.symm)]
    exact hbk
  have d0 : w2.cell? ⟨b, 0, none⟩ = some (.pointer (some ⟨b, 0, none⟩)) := by rw [Lib.cell_of_heap hb2]; rfl
  have d1 : w2.cell? ⟨b, 1, none⟩ = some v := by rw [Lib.cell_of_heap hb2]; rfl
  have f1 : w2.frozen? ⟨b, 1, none⟩ = false := Lib.frozen_of_heap hb2 1
  obtain ⟨ao, n', cap, rfl⟩ : ∃ ao n' cap, v' = .slice ao n' cap := by
    rcases hown'.2 with ⟨hv, _⟩ | ⟨g, cap, cur, hv, _⟩
    · exact ⟨_, _, _, hv⟩
    · exact ⟨_, _, _, hv⟩
  go_wp2
  go_ret2
  refine ⟨rfl, .inr ?_, ?_⟩
  · exact Lib.BuilderAt.put (T := 58) (e := 5) hB hb2 (bs' := bs ++ Lib.strCells s) (by simpa [Lib.strCells_length] using hown') (by decide)
  · exact (hb1.grown hown hgrow (by have := hb1.size; omega)).set hB 1 _
set_option maxHeartbeats 1000000 in
set_option maxRecDepth 100000 in
theorem pk_len (B b : Nat) (bs : List Value) (w : World) (h : Lib.IsBuilder 58 5 B b bs w) :
    Calls Try.prog 26 #[.pointer (some ⟨b, 0, none⟩)] w fun e w' => e = .returned (.int .i64 bs.length) ∧ w' = w := by
  obtain ⟨p, hB, v, hbk, hown, hne⟩ : ∃ p, Lib.BuilderAt 58 5 B b p bs w := by
    rcases h with h | h
    · exact ⟨_, h⟩
    · exact ⟨_, h⟩
  obtain ⟨ao, cap, rfl⟩ : ∃ ao cap, v = .slice ao bs.length cap := by
    rcases hown.2 with ⟨hv, h0⟩ | ⟨g, cap, cur, hv, _⟩
    · exact ⟨none, 0, by rw [hv, h0]⟩
    · exact ⟨_, _, hv⟩
  have c1 : w.cell? ⟨b, 1, none⟩ = some (.slice ao bs.length cap) := by rw [Lib.cell_of_heap hbk]; rfl
  have u56 := Try.underlying56
  have u54 := Try.underlying54
  go_enter Try.func26, Try.ntmps26
  go_wp2
  go_ret
  exact ⟨rfl, rfl⟩
set_option maxHeartbeats 1000000 in
set_option maxRecDepth 100000 in
theorem pk_string (B b : Nat) (l : List UInt8) (w : World) (h : Lib.IsBuilder 58 5 B b (Lib.byteCells l) w) (h0 : l ≠ []) :
    Calls Try.prog 27 #[.pointer (some ⟨b, 0, none⟩)] w fun e w' => e = .returned (.string ⟨l.toArray⟩) ∧ Below B w w' := by
  obtain ⟨p, hB, v, hbk, hown, hne⟩ : ∃ p, Lib.BuilderAt 58 5 B b p (Lib.byteCells l) w := by
    rcases h with h | h
    · exact ⟨_, h⟩
    · exact ⟨_, h⟩
  have hl0 : l.length ≠ 0 := by simpa using h0
  rw [Lib.byteCells_length] at hown
  obtain ⟨g, cap, cur, rfl, hbg, hg, hnc, hcm, hcs, htake⟩ : ∃ g cap cur, v = .slice (some ⟨g, 0, none⟩) l.length cap ∧ B ≤ g ∧ w.heap[g]? = some (.cells cur 5 (0, 0)) ∧ l.length ≤ cap ∧ cap ≤ maxLen ∧ cur.size = cap * 1 ∧ cur.toList.take (l.length * 1) = Lib.byteCells l := by
    rcases hown.2 with ⟨_, hz⟩ | ⟨g, cap, cur, hv, r⟩
    · exact absurd hz hl0
    · exact ⟨g, cap, cur, hv, r⟩
  have c1 : w.drew.cell? ⟨b, 1, none⟩ = some (.slice (some ⟨g, 0, none⟩) l.length cap) := by
    have : w.drew.heap[b]? = some (.cells #[p, .slice (some ⟨g, 0, none⟩) l.length cap] 58 (0, 0)) := hbk
    rw [Lib.cell_of_heap this]; rfl
  have hSD : (Builtin.unsafeSliceData_ #[51] 89 #[.slice (some ⟨g, 0, none⟩) l.length cap]).run Try.prog w.drew = .ok (.pointer (some ⟨g, 0, none⟩)) w.drew :=
    Lib.run_unsafeSliceData_row _ _ _ _ _ _ (by omega)
  have hUS : (Builtin.unsafeString_ #[89, 3] 9 #[.pointer (some ⟨g, 0, none⟩), .int .i64 l.length]).run Try.prog w.drew = .ok (.string ⟨l.toArray⟩) (w.drew.freeze ⟨g, 0, none⟩ l.length) := by
    refine Lib.run_unsafeString_row w.drew 89 3 9 5 Try.underlying89 (by kernel_rfl) g cur.size (by have hg' : w.drew.heap[g]? = some (.cells cur 5 (0, 0)) := hg; simp [World.shape?, hg']) l h0 (by omega) (by unfold maxLen at hcm; omega) ?_
    intro j x hx
    have := hown.cells (g := g) rfl j (.int .u8 x.toNat) (by simp [Lib.byteCells, hx])
    exact this
  have u56 := Try.underlying56
  have u54 := Try.underlying54
  go_enter Try.func27, Try.ntmps27
  go_wp2
  go_region
  all_goals (go_wp2; go_ret; exact ⟨rfl, Lib.below_freeze (Below.drew (Below.refl B w)) (p := ⟨g, 0, none⟩) hbg _⟩)

/-- A whole number in sevens of bits. -/
def uv : Nat → Nat → List UInt8
  | 0, n => [UInt8.ofNat n]
  | f + 1, n => if n < 128 then [UInt8.ofNat n] else UInt8.ofNat (n % 128 + 128) :: uv f (n / 128)
theorem uv_len (f : Nat) : ∀ n, (uv f n).length ≤ f + 1 := by
  induction f with
  | zero => intro n; simp [uv]
  | succ f ih => intro n; rw [uv]; split; simp; have := ih (n / 128); simp; omega
theorem pk_byteU (B b : Nat) (l : List UInt8) (x : UInt8) (w : World) (h : Lib.IsBuilder 58 5 B b (Lib.byteCells l) w) (hlen : l.length + 1 ≤ 140737488355328) (hBw : B ≤ w.heap.size) :
    Calls Try.prog 21 #[.pointer (some ⟨b, 0, none⟩), .int .u8 x.toNat] w fun e w' => e = .returned .nilIface ∧ (Lib.IsBuilder 58 5 B b (Lib.byteCells (l ++ [x])) w' ∧ pkB B b w w') := by
  have := pk_byteW B b (Lib.byteCells l) x.toNat w h (by rw [Lib.byteCells_length]; exact hlen) hBw
  have e : Lib.byteCells l ++ [.int .u8 (x.toNat : Int)] = Lib.byteCells (l ++ [x]) := by simp [Lib.byteCells]
  rw [e] at this
  exact this
theorem or128 : ∀ x : Fin 256, bits BinOp.or IntKind.u8 (x.val : Int) 128 = ((x.val % 128 + 128 : Nat) : Int) := by decide +kernel
theorem or128' (m : Nat) : bits BinOp.or IntKind.u8 ((m : Int) % 256) 128 = ((UInt8.ofNat (m % 128 + 128)).toNat : Int) := by
  have h := or128 ⟨m % 256, Nat.mod_lt _ (by omega)⟩
  simp only at h
  rw [show ((m : Int) % 256) = ((m % 256 : Nat) : Int) from rfl, h]
  congr 1
  rw [UInt8.toNat_ofNat']
  omega
theorem low8 (m : Nat) (h : m < 128) : ((m : Int) % 256) = ((UInt8.ofNat m).toNat : Int) := by
  rw [UInt8.toNat_ofNat']
  omega
set_option maxHeartbeats 2000000 in
set_option maxRecDepth 100000 in
theorem pk_count (B b : Nat) (l : List UInt8) (n : Nat) (hn : n < 18446744073709551616) (w : World) (h : Lib.IsBuilder 58 5 B b (Lib.byteCells l) w) (hlen : l.length + 20 ≤ 140737488355328) (hBw : B ≤ w.heap.size) :
    Calls Try.prog 25 #[.pointer (some ⟨b, 0, none⟩), .int .u64 n] w fun e w' => e = .returned (.tuple #[]) ∧ (Lib.IsBuilder 58 5 B b (Lib.byteCells (l ++ uv 10 n)) w' ∧ pkB B b w w') := by
  have u58 := Try.underlying58
  have u53 := Try.underlying53
  have HI := Aside0.mk h
  have HN := Aside0.mk hn
  clear h hn
  go_enter Try.func25, Try.ntmps25
  go_wp2_with fail
  go_loopw [1] (fun v1 wr => ∃ (m f : Nat) (l' : List UInt8), v1 = .int .u64 m ∧ f ≤ 10 ∧ Aside0 (m < 128 ^ (f + 1)) ∧ Aside0 (l'.length + f ≤ l.length + 10) ∧ Aside0 (l' ++ uv f m = l ++ uv 10 n) ∧ Aside0 (Lib.IsBuilder 58 5 B b (Lib.byteCells l') wr) ∧ Aside0 (pkB B b w wr)) (fun v1 _ => (intOf v1).toNat)
  case atStart => exact ⟨n, 10, l, rfl, by omega, ⟨by have := HN.out; omega⟩, ⟨by omega⟩, ⟨rfl⟩, HI, ⟨pkB.refl _ _ _⟩⟩
  case round =>
    clear HI
    obtain ⟨m, f, l', rfl, hf, HM, HL, HE, HI, HB⟩ := hrel
    by_cases hlt : 128 ≤ m
    · go_wp2_with fail
      rw [or128']
      refine (pk_byteU B b l' _ _ HI.out (by have := HL.out; omega) (by have := HB.out.size; omega)).mono ?_
      rintro e w1 ⟨rfl, h1, hb1⟩
      have HI1 := Aside0.mk h1
      have HB1 := Aside0.mk (HB.out.trans hb1)
      clear h1 hb1 HI HB
      cases f with
      | zero => exact absurd HM.out (by omega)
      | succ f =>
        have HE1 := Aside0.mk (show (l' ++ [UInt8.ofNat (m % 128 + 128)]) ++ uv f (m / 128) = l ++ uv 10 n by have h := HE.out; rw [uv, if_neg (by omega)] at h; rw [List.append_assoc]; exact h)
        have HM1 := Aside0.mk (show m / 128 < 128 ^ (f + 1) by have h := HM.out; rw [Nat.pow_succ] at h; exact Nat.div_lt_of_lt_mul (by rw [Nat.mul_comm]; exact h))
        have HL1 := Aside0.mk (show (l' ++ [UInt8.ofNat (m % 128 + 128)]).length + f ≤ l.length + 10 by have h := HL.out; simp; omega)
        have HZ := Aside0.mk (show (intOf (Value.int IntKind.u64 ((m : Int) / 128))).toNat < (intOf (Value.int IntKind.u64 (m : Int))).toNat by show ((m : Int) / 128).toNat < ((m : Int)).toNat; omega)
        clear HE HM HL HN
        go_wp2_with fail
        exact ⟨⟨m / 128, f, _, rfl, by omega, HM1, HL1, HE1, HI1, HB1⟩, HZ.out⟩
    · have HE1 := Aside0.mk (show l' ++ [UInt8.ofNat m] = l ++ uv 10 n by have h := HE.out; cases f with | zero => exact h | succ f => rw [uv, if_pos (by omega)] at h; exact h)
      have HX := Aside0.mk (show (m : Int) = ((UInt8.ofNat m).toNat : Int) by rw [UInt8.toNat_ofNat']; omega)
      clear HE HM HN
      go_wp2_with fail
      have hx := HX.out
      generalize UInt8.ofNat m = x at hx HE1
      have hm : m = x.toNat := by omega
      subst hm
      refine (pk_byteU B b l' x _ HI.out (by have := HL.out; omega) (by have := HB.out.size; omega)).mono ?_
      rintro e w1 ⟨rfl, h1, hb1⟩
      have HI1 := Aside0.mk h1
      have HB1 := Aside0.mk (HB.out.trans hb1)
      clear h1 hb1 HI HB hx HX
      go_wp2
      go_end0
      exact ⟨rfl, by have := HI1.out; rw [HE1.out] at this; exact this, HB1.out⟩

/-- Twice a number, or what is missing to it, less 1. -/
def zz (n : Int) : Nat := if 0 ≤ n then (2 * n).toNat else (-2 * n - 1).toNat
theorem zz_lt {n : Int} (h : -9223372036854775808 ≤ n ∧ n ≤ 9223372036854775807) : zz n < 18446744073709551616 := by unfold zz; split <;> omega
theorem pk_wrap_u64 (n : Int) : IntKind.u64.wrap n = n % 18446744073709551616 := by simp [IntKind.wrap, IntKind.bits, IntKind.signed]
theorem zz_bits (n : Int) (hn : -9223372036854775808 ≤ n ∧ n ≤ 9223372036854775807) :
    bits BinOp.xor IntKind.u64 (IntKind.u64.wrap (IntKind.u64.wrap n * 2)) (IntKind.u64.wrap (n / 9223372036854775808)) = (zz n : Int) := by
  obtain ⟨h1, h2⟩ := hn
  by_cases h : 0 ≤ n
  · have e1 : IntKind.u64.wrap (n / 9223372036854775808) = 0 := by rw [pk_wrap_u64]; omega
    have e2 : IntKind.u64.wrap (IntKind.u64.wrap n * 2) = ((2 * n).toNat : Int) := by rw [pk_wrap_u64, pk_wrap_u64]; omega
    have e3 : (zz n : Int) = ((2 * n).toNat : Int) := by unfold zz; rw [if_pos h]
    have hl : (2 * n).toNat < 18446744073709551616 := by omega
    rw [e1, e2, e3]
    generalize (2 * n).toNat = a at hl ⊢
    unfold bits
    simp only [pk_wrap_u64]
    have : (BitVec.ofInt IntKind.u64.bits (a : Int) ^^^ BitVec.ofInt IntKind.u64.bits 0).toNat = a := by
      show (BitVec.ofInt 64 (a : Int) ^^^ BitVec.ofInt 64 0).toNat = a
      rw [show BitVec.ofInt 64 0 = 0#64 from by decide, BitVec.xor_zero, BitVec.ofInt_natCast, BitVec.toNat_ofNat, Nat.mod_eq_of_lt hl]
    rw [this]
    omega
  · have e1 : IntKind.u64.wrap (n / 9223372036854775808) = 18446744073709551615 := by rw [pk_wrap_u64]; omega
    have e2 : IntKind.u64.wrap (IntKind.u64.wrap n * 2) = ((2 * n + 18446744073709551616).toNat : Int) := by rw [pk_wrap_u64, pk_wrap_u64]; omega
    have e3 : (zz n : Int) = ((-2 * n - 1).toNat : Int) := by unfold zz; rw [if_neg h]
    have hl : (2 * n + 18446744073709551616).toNat < 18446744073709551616 := by omega
    have hs : (-2 * n - 1).toNat = 18446744073709551615 - (2 * n + 18446744073709551616).toNat := by omega
    rw [e1, e2, e3, hs]
    generalize (2 * n + 18446744073709551616).toNat = a at hl ⊢
    unfold bits
    simp only [pk_wrap_u64]
    have : (BitVec.ofInt IntKind.u64.bits (a : Int) ^^^ BitVec.ofInt IntKind.u64.bits 18446744073709551615).toNat = 18446744073709551615 - a := by
      show (BitVec.ofInt 64 (a : Int) ^^^ BitVec.ofInt 64 18446744073709551615).toNat = _
      rw [show BitVec.ofInt 64 18446744073709551615 = BitVec.allOnes 64 from by decide, BitVec.xor_allOnes, BitVec.toNat_not, BitVec.ofInt_natCast, BitVec.toNat_ofNat, Nat.mod_eq_of_lt hl]
    rw [this]
    omega
set_option maxHeartbeats 2000000 in
set_option maxRecDepth 100000 in
theorem pk_text (B b : Nat) (l : List UInt8) (s : ByteArray) (w : World) (h : Lib.IsBuilder 58 5 B b (Lib.byteCells l) w) (hs : s.size ≤ 140737488351232) (hlen : l.length + 20 + s.size ≤ 140737488355328) (hBw : B ≤ w.heap.size) :
    Calls Try.prog 22 #[.pointer (some ⟨b, 0, none⟩), .string s] w fun e w' => e = .returned (.tuple #[]) ∧ (Lib.IsBuilder 58 5 B b (Lib.byteCells (l ++ uv 10 s.size ++ s.data.toList)) w' ∧ pkB B b w w') := by
  have u58 := Try.underlying58
  have u53 := Try.underlying53
  have HI := Aside0.mk h
  clear h
  go_enter Try.func22, Try.ntmps22
  go_wp2_with fail
  refine (pk_count B b l s.size (by omega) _ HI.out (by omega) hBw).mono ?_
  rintro e w1 ⟨rfl, h1, hb1⟩
  have HI1 := Aside0.mk h1
  have HB1 := Aside0.mk hb1
  have hz := hb1.size
  clear h1 hb1 HI
  go_wp2_with fail
  have hu := uv_len 10 s.size
  refine (pk_strW B b (Lib.byteCells (l ++ uv 10 s.size)) s _ HI1.out (by rw [Lib.byteCells_length]; simp; omega) (by omega)).mono ?_
  rintro e w2 ⟨rfl, h2, hb2⟩
  have HI2 := Aside0.mk h2
  have HB2 := Aside0.mk (HB1.out.trans hb2)
  clear h2 hb2 HI1 HB1
  go_wp2
  go_end0
  refine ⟨rfl, ?_, HB2.out⟩
  have h := HI2.out
  have e : Lib.byteCells (l ++ uv 10 s.size) ++ Lib.strCells s = Lib.byteCells (l ++ uv 10 s.size ++ s.data.toList) := by simp [Lib.byteCells, Lib.strCells]
  rw [e] at h
  exact h
set_option maxHeartbeats 2000000 in
set_option maxRecDepth 100000 in
theorem pk_number (B b : Nat) (l : List UInt8) (n : Int) (hn : -9223372036854775808 ≤ n ∧ n ≤ 9223372036854775807) (w : World) (h : Lib.IsBuilder 58 5 B b (Lib.byteCells l) w) (hlen : l.length + 20 ≤ 140737488355328) (hBw : B ≤ w.heap.size) :
    Calls Try.prog 23 #[.pointer (some ⟨b, 0, none⟩), .int .i64 n] w fun e w' => e = .returned (.tuple #[]) ∧ (Lib.IsBuilder 58 5 B b (Lib.byteCells (l ++ uv 10 (zz n))) w' ∧ pkB B b w w') := by
  have HI := Aside0.mk h
  have HN := Aside0.mk hn
  clear h hn
  go_enter Try.func23, Try.ntmps23
  go_wp2_with fail
  rw [zz_bits n HN.out]
  refine (pk_count B b l (zz n) (zz_lt HN.out) _ HI.out (by omega) hBw).mono ?_
  rintro e w1 ⟨rfl, h1, hb1⟩
  have HI1 := Aside0.mk h1
  have HB1 := Aside0.mk hb1
  clear h1 hb1 HI HN
  go_wp2
  go_end0
  exact ⟨rfl, HI1.out, HB1.out⟩
theorem isB_alloc {T e : TypeId} {B b : Nat} {bs : List Value} {w : World} (h : Lib.IsBuilder T e B b bs w) (o : Obj) : Lib.IsBuilder T e B b bs (w.alloc o) := by
  rcases h with ⟨hB, v, hb, hown, hne⟩ | ⟨hB, v, hb, hown, hne⟩
  · exact .inl ⟨hB, v, blk_alloc hb o, hown.alloc o, hne⟩
  · exact .inr ⟨hB, v, blk_alloc hb o, hown.alloc o, hne⟩
set_option maxHeartbeats 2000000 in
set_option maxRecDepth 100000 in
theorem pk_ratio (B b : Nat) (l : List UInt8) (u d : Int) (hu : -9223372036854775808 ≤ u ∧ u ≤ 9223372036854775807) (hd : -9223372036854775808 ≤ d ∧ d ≤ 9223372036854775807) (w : World) (h : Lib.IsBuilder 58 5 B b (Lib.byteCells l) w) (hlen : l.length + 40 ≤ 140737488355328) (hBw : B ≤ w.heap.size) :
    Calls Try.prog 24 #[.pointer (some ⟨b, 0, none⟩), .agg #[.int .i64 u, .int .i64 d]] w fun e w' => e = .returned (.tuple #[]) ∧ (Lib.IsBuilder 58 5 B b (Lib.byteCells (l ++ uv 10 (zz u) ++ uv 10 (zz d))) w' ∧ pkB B b w w') := by
  have u38 := Try.underlying38
  have HI := Aside0.mk h
  have HU := Aside0.mk hu
  have HD := Aside0.mk hd
  clear h hu hd
  go_enter Try.func24, Try.ntmps24
  go_wp2_with fail
  have hc0 := blk_new w (.cells #[.int .i64 u, .int .i64 d] 38)
  have hlt : b < w.heap.size := by rcases HI.out with h | h <;> exact h.lt
  have HI0 := Aside0.mk (isB_alloc HI.out (.cells #[.int .i64 u, .int .i64 d] 38))
  refine (pk_number B b l u HU.out _ HI0.out (by omega) (by simp; omega)).mono ?_
  rintro e w1 ⟨rfl, h1, hb1⟩
  have HI1 := Aside0.mk h1
  have hk := hb1.2 _ _ _ _ hc0 (by decide) (by omega)
  have c1 := blk_cell hk 1
  have HB1 := Aside0.mk hb1
  have hz := hb1.size
  simp at hz
  have hut1 := uv_len 10 (zz u)
  clear h1 hb1 HI0 HI hc0 hk
  go_wp2_with fail
  refine (pk_number B b _ d HD.out _ HI1.out (by simp; omega) (by omega)).mono ?_
  rintro e w2 ⟨rfl, h2, hb2⟩
  have HI2 := Aside0.mk h2
  have HB2 := Aside0.mk (pkB.new _ (HB1.out.trans hb2) hBw)
  clear h2 hb2 HI1 HB1
  go_wp2
  go_end0
  exact ⟨rfl, HI2.out, HB2.out⟩


def pk_text_ (s : ByteArray) : List UInt8 := uv 10 s.size ++ s.data.toList
def pk_num_ (n : Int) : List UInt8 := uv 10 (zz n)
/-- A message's bytes. -/
def pk_list (a0 : Int) (a1 : ByteArray) (a2 : Int) (a3 a4 : ByteArray) (a5 a6 a7 a8 a9 : Int) (l10 : List Int) (a11 a12 : Int) : List UInt8 :=
  [UInt8.ofNat a0.toNat] ++ pk_text_ a1 ++ pk_num_ a2 ++ (if a0 = 1 then pk_text_ a3 ++ pk_text_ a4 ++ (pk_num_ a5 ++ pk_num_ a6) ++ pk_num_ a7 ++ pk_num_ a8 else pk_num_ a9 ++ uv 10 l10.length ++ l10.flatMap pk_num_ ++ (pk_num_ a11 ++ pk_num_ a12))
theorem pk_num_len (n : Int) : (pk_num_ n).length ≤ 11 := uv_len 10 _
theorem pk_text_len (s : ByteArray) : (pk_text_ s).length ≤ 11 + s.size := by
  unfold pk_text_
  have := uv_len 10 s.size
  rw [List.length_append]
  have e : s.data.toList.length = s.size := rfl
  omega
def wire_Pack.g (a0 : Int) (a1 : ByteArray) (a2 : Int) (a3 a4 : ByteArray) (a5 a6 a7 a8 a9 : Int) (l10 : List Int) (a11 a12 : Int) : Option (ByteArray × Int) :=
  (wire_clean.f a0 a1 a2 a3 a4 a5 a6 a7 a8 a9 l10 a11 a12).bind fun c => if c = true then (if a1.size + a3.size + a4.size + 20 * l10.length ≤ 70368744177664 then (if (pk_list a0 a1 a2 a3 a4 a5 a6 a7 a8 a9 l10 a11 a12).length > 65536 then some (ByteArray.empty, 4) else some (⟨(pk_list a0 a1 a2 a3 a4 a5 a6 a7 a8 a9 l10 a11 a12).toArray⟩, 0)) else none) else some (ByteArray.empty, 2)

set_option maxHeartbeats 4000000 in
set_option maxRecDepth 100000 in
theorem pk_walk0 (a0 : Int) (a1 : ByteArray) (a2 : Int) (a3 a4 : ByteArray) (a5 a6 a7 a8 a9 : Int) (A10 : Option Addr) (c10 : Nat) (l10 : List Int) (a11 a12 : Int) (w : World) (hr : Kd.C (Kd.int .i64) w A10 l10.length l10) (hc : l10.length ≤ c10) (h : wire_clean.f a0 a1 a2 a3 a4 a5 a6 a7 a8 a9 l10 a11 a12 = some false) :
    Calls Try.prog 12 #[.agg #[.int .i64 a0, .string a1, .int .i64 a2, .string a3, .string a4, .int .i64 a5, .int .i64 a6, .int .i64 a7, .int .i64 a8, .int .i64 a9, .slice A10 l10.length c10, .int .i64 a11, .int .i64 a12]] w fun e w' => e = .returned (.tuple #[.string ByteArray.empty, .int .i64 2]) ∧ Below w.heap.size w w' := by
  have u40 := Try.underlying40
  have H := Aside0.mk h
  have HR := Aside0.mk hr
  have HC := Aside0.mk hc
  clear h hr hc
  go_enter Try.func12, Try.ntmps12
  go_wp2_with fail
  refine (wire_clean.calls a0 a1 a2 a3 a4 a5 a6 a7 a8 a9 A10 c10 l10 a11 a12 false _ (Kd.C_below HR.out (below_alloc (Below.refl _ _) _)) HC.out H.out).mono ?_
  rintro e w1 ⟨rfl, hb⟩
  have HB := Aside0.mk (below_then (below_alloc (Below.refl w.heap.size w) _) (by simp) hb)
  clear hb
  go_wp2
  go_ret2
  exact ⟨rfl, HB.out⟩

set_option maxHeartbeats 8000000 in
set_option maxRecDepth 100000 in
theorem pk_walk1 (a0 : Int) (a1 : ByteArray) (a2 : Int) (a3 a4 : ByteArray) (a5 a6 a7 a8 a9 : Int) (A10 : Option Addr) (c10 : Nat) (l10 : List Int) (a11 a12 : Int) (ha2 : -9223372036854775808 ≤ a2 ∧ a2 ≤ 9223372036854775807) (ha5 : -9223372036854775808 ≤ a5 ∧ a5 ≤ 9223372036854775807) (ha6 : -9223372036854775808 ≤ a6 ∧ a6 ≤ 9223372036854775807) (ha7 : -9223372036854775808 ≤ a7 ∧ a7 ≤ 9223372036854775807) (ha8 : -9223372036854775808 ≤ a8 ∧ a8 ≤ 9223372036854775807) (w : World) (hr : Kd.C (Kd.int .i64) w A10 l10.length l10) (hc : l10.length ≤ c10) (h : wire_clean.f a0 a1 a2 a3 a4 a5 a6 a7 a8 a9 l10 a11 a12 = some true) (hsz : a1.size + a3.size + a4.size + 20 * l10.length ≤ 70368744177664) (hk : a0 = 1) :
    Calls Try.prog 12 #[.agg #[.int .i64 a0, .string a1, .int .i64 a2, .string a3, .string a4, .int .i64 a5, .int .i64 a6, .int .i64 a7, .int .i64 a8, .int .i64 a9, .slice A10 l10.length c10, .int .i64 a11, .int .i64 a12]] w fun e w' => (∃ s n, some (s, n) = wire_Pack.g 1 a1 a2 a3 a4 a5 a6 a7 a8 a9 l10 a11 a12 ∧ e = .returned (.tuple #[.string s, .int .i64 n])) ∧ Below w.heap.size w w' := by
  have u40 := Try.underlying40
  have u58 := Try.underlying58
  have u53 := Try.underlying53
  have u38 := Try.underlying38
  subst hk
  have H := Aside0.mk h
  have HR := Aside0.mk hr
  have HC := Aside0.mk hc
  have HSZ := Aside0.mk hsz
  have Ra2 := Aside0.mk ha2
  clear ha2
  have Ra5 := Aside0.mk ha5
  clear ha5
  have Ra6 := Aside0.mk ha6
  clear ha6
  have Ra7 := Aside0.mk ha7
  clear ha7
  have Ra8 := Aside0.mk ha8
  clear ha8
  clear h hr hc
  go_enter Try.func12, Try.ntmps12
  go_wp2_with fail
  refine (wire_clean.calls 1 a1 a2 a3 a4 a5 a6 a7 a8 a9 A10 c10 l10 a11 a12 true _ (Kd.C_below HR.out (below_alloc (Below.refl _ _) _)) HC.out H.out).mono ?_
  rintro e w1 ⟨rfl, hb⟩
  have HB := Aside0.mk (below_then (below_alloc (Below.refl w.heap.size w) _) (by simp) hb)
  have hK := blk_below (blk_new w _) hb
  have HZ := hb.size
  clear hb
  go_wp2_with fail
  obtain ⟨w2, hw2⟩ : ∃ w2, w2 = w1.alloc (.cells #[.pointer none, .slice none 0 0] 58) := ⟨_, rfl⟩
  rw [← hw2]
  have hK2 : w2.heap[w.heap.size]? = some (.cells #[.int .i64 1, .string a1, .int .i64 a2, .string a3, .string a4, .int .i64 a5, .int .i64 a6, .int .i64 a7, .int .i64 a8, .int .i64 a9, .slice A10 l10.length c10, .int .i64 a11, .int .i64 a12] 40 (0, 0)) := by rw [hw2]; exact blk_alloc hK _
  have hI2 : Lib.IsBuilder 58 5 w.heap.size w1.heap.size (Lib.byteCells []) w2 := by rw [hw2]; exact .inl ⟨by simp at HZ; omega, _, blk_new w1 _, World.ownsRow_nil _ _ _ _, by simp [Value.ownBlock]⟩
  have HB2 := Aside0.mk (show Below w.heap.size w w2 by rw [hw2]; exact below_alloc HB.out _)
  have hz2 : w.heap.size + 1 ≤ w1.heap.size ∧ w1.heap.size < w2.heap.size := by rw [hw2]; simp at HZ ⊢; omega
  clear hw2 HB hK HZ
  generalize w1.heap.size = g at *
  have HI := Aside0.mk hI2
  clear hI2
  have k0 : w2.cell? ⟨w.heap.size, 0, none⟩ = some (.int .i64 1) := (blk_cell hK2 0).trans rfl
  have HK := Aside0.mk (show w2.drew.heap[w.heap.size]? = _ from hK2)
  have HI := Aside0.mk (show Lib.IsBuilder 58 5 w.heap.size g (Lib.byteCells []) w2.drew from HI.out)
  have HB := Aside0.mk (below_drew1 HB2.out)
  have hz : w.heap.size + 1 ≤ g ∧ g < w2.drew.heap.size := hz2
  clear hK2 HB2 hz2
  go_still_tail 6, (by kernel_rfl)
  change wpList _ _ _ _ _ w2.drew
  clear k0
  generalize w2.drew = w3 at *
  go_wp2_with fail
  refine (pk_byteW w.heap.size g (Lib.byteCells []) 1 _ HI.out (by simp [Lib.byteCells]) (by omega)).mono ?_
  rintro e w4 ⟨rfl, h1, hb1⟩
  have HI0 := Aside0.mk (show Lib.IsBuilder 58 5 w.heap.size g (Lib.byteCells [UInt8.ofNat (1 : Int).toNat]) w4 from h1)
  have HK0 := Aside0.mk (hb1.2 _ _ _ _ HK.out (by decide) (by omega))
  have HB0 := Aside0.mk (HB.out.trans hb1.1)
  have hz0 := hb1.size
  clear h1 hb1 HI HK HB
  obtain ⟨l0, hl0⟩ : ∃ l0, l0 = [UInt8.ofNat (1 : Int).toNat] := ⟨_, rfl⟩
  rw [← hl0] at HI0
  have hL0 : l0.length ≤ 1 := by rw [hl0]; simp
  have HE0 := Aside0.mk hl0
  clear hl0
  have kc : w4.cell? ⟨w.heap.size, 1, none⟩ = some (.string a1) := (blk_cell HK0.out 1).trans rfl
  go_wp2_with fail
  refine (pk_text w.heap.size g l0 a1 _ HI0.out (by omega) (by omega) (by omega)).mono ?_
  rintro e w5 ⟨rfl, h1, hb1⟩
  obtain ⟨l1, hl1⟩ : ∃ l1, l1 = l0 ++ pk_text_ a1 := ⟨_, rfl⟩
  have HI1 := Aside0.mk (show Lib.IsBuilder 58 5 w.heap.size g (Lib.byteCells l1) w5 by rw [hl1]; first | exact h1 | (have h2 := h1; simp only [List.append_assoc] at h2; exact h2))
  have HK1 := Aside0.mk (hb1.2 _ _ _ _ HK0.out (by decide) (by omega))
  have HB1 := Aside0.mk (HB0.out.trans hb1.1)
  have hz1 := hb1.size
  have hL1 : l1.length ≤ 1 + (11 + a1.size) := by rw [hl1]; simp only [List.length_append]; have hq := pk_text_len a1; omega
  have HE1 := Aside0.mk (show l1 = [UInt8.ofNat (1 : Int).toNat] ++ pk_text_ a1 by rw [hl1, HE0.out])
  clear h1 hb1 hl1 HI0 HK0 HB0 hL0 HE0 kc
  have kc : w5.cell? ⟨w.heap.size, 2, none⟩ = some (.int .i64 a2) := (blk_cell HK1.out 2).trans rfl
  go_wp2_with fail
  refine (pk_number w.heap.size g l1 a2 Ra2.out _ HI1.out (by omega) (by omega)).mono ?_
  rintro e w6 ⟨rfl, h1, hb1⟩
  obtain ⟨l2, hl2⟩ : ∃ l2, l2 = l1 ++ pk_num_ a2 := ⟨_, rfl⟩
  have HI2 := Aside0.mk (show Lib.IsBuilder 58 5 w.heap.size g (Lib.byteCells l2) w6 by rw [hl2]; first | exact h1 | (have h2 := h1; simp only [List.append_assoc] at h2; exact h2))
  have HK2 := Aside0.mk (hb1.2 _ _ _ _ HK1.out (by decide) (by omega))
  have HB2 := Aside0.mk (HB1.out.trans hb1.1)
  have hz2 := hb1.size
  have hL2 : l2.length ≤ 1 + (11 + a1.size) + 11 := by rw [hl2]; simp only [List.length_append]; have hq := pk_num_len a2; omega
  have HE2 := Aside0.mk (show l2 = [UInt8.ofNat (1 : Int).toNat] ++ pk_text_ a1 ++ pk_num_ a2 by rw [hl2, HE1.out])
  clear h1 hb1 hl2 HI1 HK1 HB1 hL1 HE1 kc
  have kc : w6.cell? ⟨w.heap.size, 3, none⟩ = some (.string a3) := (blk_cell HK2.out 3).trans rfl
  have kk : w6.cell? ⟨w.heap.size, 0, none⟩ = some (.int .i64 1) := (blk_cell HK2.out 0).trans rfl
  go_wp2_with fail
  refine (pk_text w.heap.size g l2 a3 _ HI2.out (by omega) (by omega) (by omega)).mono ?_
  rintro e w7 ⟨rfl, h1, hb1⟩
  obtain ⟨l3, hl3⟩ : ∃ l3, l3 = l2 ++ pk_text_ a3 := ⟨_, rfl⟩
  have HI3 := Aside0.mk (show Lib.IsBuilder 58 5 w.heap.size g (Lib.byteCells l3) w7 by rw [hl3]; first | exact h1 | (have h2 := h1; simp only [List.append_assoc] at h2; exact h2))
  have HK3 := Aside0.mk (hb1.2 _ _ _ _ HK2.out (by decide) (by omega))
  have HB3 := Aside0.mk (HB2.out.trans hb1.1)
  have hz3 := hb1.size
  have hL3 : l3.length ≤ 1 + (11 + a1.size) + 11 + (11 + a3.size) := by rw [hl3]; simp only [List.length_append]; have hq := pk_text_len a3; omega
  have HE3 := Aside0.mk (show l3 = [UInt8.ofNat (1 : Int).toNat] ++ pk_text_ a1 ++ pk_num_ a2 ++ pk_text_ a3 by rw [hl3, HE2.out])
  clear h1 hb1 hl3 HI2 HK2 HB2 hL2 HE2 kc kk
  have kc : w7.cell? ⟨w.heap.size, 4, none⟩ = some (.string a4) := (blk_cell HK3.out 4).trans rfl
  go_wp2_with fail
  refine (pk_text w.heap.size g l3 a4 _ HI3.out (by omega) (by omega) (by omega)).mono ?_
  rintro e w8 ⟨rfl, h1, hb1⟩
  obtain ⟨l4, hl4⟩ : ∃ l4, l4 = l3 ++ pk_text_ a4 := ⟨_, rfl⟩
  have HI4 := Aside0.mk (show Lib.IsBuilder 58 5 w.heap.size g (Lib.byteCells l4) w8 by rw [hl4]; first | exact h1 | (have h2 := h1; simp only [List.append_assoc] at h2; exact h2))
  have HK4 := Aside0.mk (hb1.2 _ _ _ _ HK3.out (by decide) (by omega))
  have HB4 := Aside0.mk (HB3.out.trans hb1.1)
  have hz4 := hb1.size
  have hL4 : l4.length ≤ 1 + (11 + a1.size) + 11 + (11 + a3.size) + (11 + a4.size) := by rw [hl4]; simp only [List.length_append]; have hq := pk_text_len a4; omega
  have HE4 := Aside0.mk (show l4 = [UInt8.ofNat (1 : Int).toNat] ++ pk_text_ a1 ++ pk_num_ a2 ++ pk_text_ a3 ++ pk_text_ a4 by rw [hl4, HE3.out])
  clear h1 hb1 hl4 HI3 HK3 HB3 hL3 HE3 kc
  have kc : w8.cell? ⟨w.heap.size, 5, none⟩ = some (.int .i64 a5) := (blk_cell HK4.out 5).trans rfl
  have kd : w8.cell? ⟨w.heap.size, 6, none⟩ = some (.int .i64 a6) := (blk_cell HK4.out 6).trans rfl
  go_wp2_with fail
  refine (pk_ratio w.heap.size g l4 a5 a6 Ra5.out Ra6.out _ HI4.out (by omega) (by omega)).mono ?_
  rintro e w9 ⟨rfl, h1, hb1⟩
  obtain ⟨l5, hl5⟩ : ∃ l5, l5 = l4 ++ (pk_num_ a5 ++ pk_num_ a6) := ⟨_, rfl⟩
  have HI5 := Aside0.mk (show Lib.IsBuilder 58 5 w.heap.size g (Lib.byteCells l5) w9 by rw [hl5]; first | exact h1 | (have h2 := h1; simp only [List.append_assoc] at h2; exact h2))
  have HK5 := Aside0.mk (hb1.2 _ _ _ _ HK4.out (by decide) (by omega))
  have HB5 := Aside0.mk (HB4.out.trans hb1.1)
  have hz5 := hb1.size
  have hL5 : l5.length ≤ 1 + (11 + a1.size) + 11 + (11 + a3.size) + (11 + a4.size) + 22 := by rw [hl5]; simp only [List.length_append]; have hq := pk_num_len a5; have hq2 := pk_num_len a6; omega
  have HE5 := Aside0.mk (show l5 = [UInt8.ofNat (1 : Int).toNat] ++ pk_text_ a1 ++ pk_num_ a2 ++ pk_text_ a3 ++ pk_text_ a4 ++ (pk_num_ a5 ++ pk_num_ a6) by rw [hl5, HE4.out])
  clear h1 hb1 hl5 HI4 HK4 HB4 hL4 HE4 kc kd
  have kc : w9.cell? ⟨w.heap.size, 7, none⟩ = some (.int .i64 a7) := (blk_cell HK5.out 7).trans rfl
  go_wp2_with fail
  refine (pk_number w.heap.size g l5 a7 Ra7.out _ HI5.out (by omega) (by omega)).mono ?_
  rintro e w10 ⟨rfl, h1, hb1⟩
  obtain ⟨l6, hl6⟩ : ∃ l6, l6 = l5 ++ pk_num_ a7 := ⟨_, rfl⟩
  have HI6 := Aside0.mk (show Lib.IsBuilder 58 5 w.heap.size g (Lib.byteCells l6) w10 by rw [hl6]; first | exact h1 | (have h2 := h1; simp only [List.append_assoc] at h2; exact h2))
  have HK6 := Aside0.mk (hb1.2 _ _ _ _ HK5.out (by decide) (by omega))
  have HB6 := Aside0.mk (HB5.out.trans hb1.1)
  have hz6 := hb1.size
  have hL6 : l6.length ≤ 1 + (11 + a1.size) + 11 + (11 + a3.size) + (11 + a4.size) + 22 + 11 := by rw [hl6]; simp only [List.length_append]; have hq := pk_num_len a7; omega
  have HE6 := Aside0.mk (show l6 = [UInt8.ofNat (1 : Int).toNat] ++ pk_text_ a1 ++ pk_num_ a2 ++ pk_text_ a3 ++ pk_text_ a4 ++ (pk_num_ a5 ++ pk_num_ a6) ++ pk_num_ a7 by rw [hl6, HE5.out])
  clear h1 hb1 hl6 HI5 HK5 HB5 hL5 HE5 kc
  have kc : w10.cell? ⟨w.heap.size, 8, none⟩ = some (.int .i64 a8) := (blk_cell HK6.out 8).trans rfl
  go_wp2_with fail
  refine (pk_number w.heap.size g l6 a8 Ra8.out _ HI6.out (by omega) (by omega)).mono ?_
  rintro e w11 ⟨rfl, h1, hb1⟩
  obtain ⟨l7, hl7⟩ : ∃ l7, l7 = l6 ++ pk_num_ a8 := ⟨_, rfl⟩
  have HI7 := Aside0.mk (show Lib.IsBuilder 58 5 w.heap.size g (Lib.byteCells l7) w11 by rw [hl7]; first | exact h1 | (have h2 := h1; simp only [List.append_assoc] at h2; exact h2))
  have HK7 := Aside0.mk (hb1.2 _ _ _ _ HK6.out (by decide) (by omega))
  have HB7 := Aside0.mk (HB6.out.trans hb1.1)
  have hz7 := hb1.size
  have hL7 : l7.length ≤ 1 + (11 + a1.size) + 11 + (11 + a3.size) + (11 + a4.size) + 22 + 11 + 11 := by rw [hl7]; simp only [List.length_append]; have hq := pk_num_len a8; omega
  have HE7 := Aside0.mk (show l7 = [UInt8.ofNat (1 : Int).toNat] ++ pk_text_ a1 ++ pk_num_ a2 ++ pk_text_ a3 ++ pk_text_ a4 ++ (pk_num_ a5 ++ pk_num_ a6) ++ pk_num_ a7 ++ pk_num_ a8 by rw [hl7, HE6.out])
  clear h1 hb1 hl7 HI6 HK6 HB6 hL6 HE6 kc
  have HF := Aside0.mk (show l7 = pk_list 1 a1 a2 a3 a4 a5 a6 a7 a8 a9 l10 a11 a12 by rw [HE7.out, pk_list, if_pos rfl]; simp only [List.append_assoc])
  clear HE7
  go_wp2_with fail
  refine (pk_len w.heap.size g (Lib.byteCells l7) _ HI7.out).mono ?_
  rintro e wl ⟨rfl, rfl⟩
  rw [Lib.byteCells_length]
  by_cases hgt : l7.length > 65536
  · have hgt' : (65536 : Int) < (l7.length : Int) := by omega
    go_wp2
    go_ret2
    exact ⟨⟨ByteArray.empty, 4, by unfold wire_Pack.g; rw [H.out, Option.bind_some, if_pos rfl, if_pos HSZ.out, if_pos (by rw [← HF.out]; exact hgt)], rfl⟩, HB7.out⟩
  · have hgt' : (l7.length : Int) ≤ 65536 := by omega
    go_wp2_with fail
    refine (pk_string w.heap.size g l7 _ HI7.out (by intro h0; rw [HF.out, pk_list] at h0; simp at h0)).mono ?_
    rintro e ws ⟨rfl, hbs⟩
    have HBs := Aside0.mk (HB7.out.trans hbs)
    clear hbs
    go_wp2
    go_ret2
    exact ⟨⟨_, 0, by unfold wire_Pack.g; rw [H.out, Option.bind_some, if_pos rfl, if_pos HSZ.out, if_neg (by rw [← HF.out]; exact hgt), ← HF.out], rfl⟩, HBs.out⟩
set_option maxHeartbeats 8000000 in
set_option maxRecDepth 100000 in
theorem pk_walk2 (a0 : Int) (a1 : ByteArray) (a2 : Int) (a3 a4 : ByteArray) (a5 a6 a7 a8 a9 : Int) (A10 : Option Addr) (c10 : Nat) (l10 : List Int) (a11 a12 : Int) (ha2 : -9223372036854775808 ≤ a2 ∧ a2 ≤ 9223372036854775807) (ha9 : -9223372036854775808 ≤ a9 ∧ a9 ≤ 9223372036854775807) (ha11 : -9223372036854775808 ≤ a11 ∧ a11 ≤ 9223372036854775807) (ha12 : -9223372036854775808 ≤ a12 ∧ a12 ≤ 9223372036854775807) (w : World) (hr : Kd.C (Kd.int .i64) w A10 l10.length l10) (hc : l10.length ≤ c10) (h : wire_clean.f a0 a1 a2 a3 a4 a5 a6 a7 a8 a9 l10 a11 a12 = some true) (hsz : a1.size + a3.size + a4.size + 20 * l10.length ≤ 70368744177664) (hV : ∀ v ∈ l10, -9223372036854775808 ≤ v ∧ v ≤ 9223372036854775807) (hk : a0 = 2) :
    Calls Try.prog 12 #[.agg #[.int .i64 a0, .string a1, .int .i64 a2, .string a3, .string a4, .int .i64 a5, .int .i64 a6, .int .i64 a7, .int .i64 a8, .int .i64 a9, .slice A10 l10.length c10, .int .i64 a11, .int .i64 a12]] w fun e w' => (∃ s n, some (s, n) = wire_Pack.g 2 a1 a2 a3 a4 a5 a6 a7 a8 a9 l10 a11 a12 ∧ e = .returned (.tuple #[.string s, .int .i64 n])) ∧ Below w.heap.size w w' := by
  have u40 := Try.underlying40
  have u58 := Try.underlying58
  have u53 := Try.underlying53
  have u38 := Try.underlying38
  subst hk
  have H := Aside0.mk h
  have HR := Aside0.mk hr
  have HC := Aside0.mk hc
  have HSZ := Aside0.mk hsz
  have HV := Aside0.mk hV
  clear hV
  have Ra2 := Aside0.mk ha2
  clear ha2
  have Ra9 := Aside0.mk ha9
  clear ha9
  have Ra11 := Aside0.mk ha11
  clear ha11
  have Ra12 := Aside0.mk ha12
  clear ha12
  clear h hr hc
  go_enter Try.func12, Try.ntmps12
  go_wp2_with fail
  refine (wire_clean.calls 2 a1 a2 a3 a4 a5 a6 a7 a8 a9 A10 c10 l10 a11 a12 true _ (Kd.C_below HR.out (below_alloc (Below.refl _ _) _)) HC.out H.out).mono ?_
  rintro e w1 ⟨rfl, hb⟩
  have HB := Aside0.mk (below_then (below_alloc (Below.refl w.heap.size w) _) (by simp) hb)
  have hK := blk_below (blk_new w _) hb
  have HZ := hb.size
  clear hb
  go_wp2_with fail
  obtain ⟨w2, hw2⟩ : ∃ w2, w2 = w1.alloc (.cells #[.pointer none, .slice none 0 0] 58) := ⟨_, rfl⟩
  rw [← hw2]
  have hK2 : w2.heap[w.heap.size]? = some (.cells #[.int .i64 2, .string a1, .int .i64 a2, .string a3, .string a4, .int .i64 a5, .int .i64 a6, .int .i64 a7, .int .i64 a8, .int .i64 a9, .slice A10 l10.length c10, .int .i64 a11, .int .i64 a12] 40 (0, 0)) := by rw [hw2]; exact blk_alloc hK _
  have hI2 : Lib.IsBuilder 58 5 w.heap.size w1.heap.size (Lib.byteCells []) w2 := by rw [hw2]; exact .inl ⟨by simp at HZ; omega, _, blk_new w1 _, World.ownsRow_nil _ _ _ _, by simp [Value.ownBlock]⟩
  have HB2 := Aside0.mk (show Below w.heap.size w w2 by rw [hw2]; exact below_alloc HB.out _)
  have hz2 : w.heap.size + 1 ≤ w1.heap.size ∧ w1.heap.size < w2.heap.size := by rw [hw2]; simp at HZ ⊢; omega
  clear hw2 HB hK HZ
  generalize w1.heap.size = g at *
  have HI := Aside0.mk hI2
  clear hI2
  have k0 : w2.cell? ⟨w.heap.size, 0, none⟩ = some (.int .i64 2) := (blk_cell hK2 0).trans rfl
  have HK := Aside0.mk (show w2.drew.heap[w.heap.size]? = _ from hK2)
  have HI := Aside0.mk (show Lib.IsBuilder 58 5 w.heap.size g (Lib.byteCells []) w2.drew from HI.out)
  have HB := Aside0.mk (below_drew1 HB2.out)
  have hz : w.heap.size + 1 ≤ g ∧ g < w2.drew.heap.size := hz2
  clear hK2 HB2 hz2
  go_still_tail 6, (by kernel_rfl)
  change wpList _ _ _ _ _ w2.drew
  clear k0
  generalize w2.drew = w3 at *
  go_wp2_with fail
  refine (pk_byteW w.heap.size g (Lib.byteCells []) 2 _ HI.out (by simp [Lib.byteCells]) (by omega)).mono ?_
  rintro e w4 ⟨rfl, h1, hb1⟩
  have HI0 := Aside0.mk (show Lib.IsBuilder 58 5 w.heap.size g (Lib.byteCells [UInt8.ofNat (2 : Int).toNat]) w4 from h1)
  have HK0 := Aside0.mk (hb1.2 _ _ _ _ HK.out (by decide) (by omega))
  have HB0 := Aside0.mk (HB.out.trans hb1.1)
  have hz0 := hb1.size
  clear h1 hb1 HI HK HB
  obtain ⟨l0, hl0⟩ : ∃ l0, l0 = [UInt8.ofNat (2 : Int).toNat] := ⟨_, rfl⟩
  rw [← hl0] at HI0
  have hL0 : l0.length ≤ 1 := by rw [hl0]; simp
  have HE0 := Aside0.mk hl0
  clear hl0
  have kc : w4.cell? ⟨w.heap.size, 1, none⟩ = some (.string a1) := (blk_cell HK0.out 1).trans rfl
  go_wp2_with fail
  refine (pk_text w.heap.size g l0 a1 _ HI0.out (by omega) (by omega) (by omega)).mono ?_
  rintro e w5 ⟨rfl, h1, hb1⟩
  obtain ⟨l1, hl1⟩ : ∃ l1, l1 = l0 ++ pk_text_ a1 := ⟨_, rfl⟩
  have HI1 := Aside0.mk (show Lib.IsBuilder 58 5 w.heap.size g (Lib.byteCells l1) w5 by rw [hl1]; first | exact h1 | (have h2 := h1; simp only [List.append_assoc] at h2; exact h2))
  have HK1 := Aside0.mk (hb1.2 _ _ _ _ HK0.out (by decide) (by omega))
  have HB1 := Aside0.mk (HB0.out.trans hb1.1)
  have hz1 := hb1.size
  have hL1 : l1.length ≤ 1 + (11 + a1.size) := by rw [hl1]; simp only [List.length_append]; have hq := pk_text_len a1; omega
  have HE1 := Aside0.mk (show l1 = [UInt8.ofNat (2 : Int).toNat] ++ pk_text_ a1 by rw [hl1, HE0.out])
  clear h1 hb1 hl1 HI0 HK0 HB0 hL0 HE0 kc
  have kc : w5.cell? ⟨w.heap.size, 2, none⟩ = some (.int .i64 a2) := (blk_cell HK1.out 2).trans rfl
  go_wp2_with fail
  refine (pk_number w.heap.size g l1 a2 Ra2.out _ HI1.out (by omega) (by omega)).mono ?_
  rintro e w6 ⟨rfl, h1, hb1⟩
  obtain ⟨l2, hl2⟩ : ∃ l2, l2 = l1 ++ pk_num_ a2 := ⟨_, rfl⟩
  have HI2 := Aside0.mk (show Lib.IsBuilder 58 5 w.heap.size g (Lib.byteCells l2) w6 by rw [hl2]; first | exact h1 | (have h2 := h1; simp only [List.append_assoc] at h2; exact h2))
  have HK2 := Aside0.mk (hb1.2 _ _ _ _ HK1.out (by decide) (by omega))
  have HB2 := Aside0.mk (HB1.out.trans hb1.1)
  have hz2 := hb1.size
  have hL2 : l2.length ≤ 1 + (11 + a1.size) + 11 := by rw [hl2]; simp only [List.length_append]; have hq := pk_num_len a2; omega
  have HE2 := Aside0.mk (show l2 = [UInt8.ofNat (2 : Int).toNat] ++ pk_text_ a1 ++ pk_num_ a2 by rw [hl2, HE1.out])
  clear h1 hb1 hl2 HI1 HK1 HB1 hL1 HE1 kc
  have kc : w6.cell? ⟨w.heap.size, 9, none⟩ = some (.int .i64 a9) := (blk_cell HK2.out 9).trans rfl
  have kk : w6.cell? ⟨w.heap.size, 0, none⟩ = some (.int .i64 2) := (blk_cell HK2.out 0).trans rfl
  go_wp2_with fail
  refine (pk_number w.heap.size g l2 a9 Ra9.out _ HI2.out (by omega) (by omega)).mono ?_
  rintro e w7 ⟨rfl, h1, hb1⟩
  obtain ⟨l3, hl3⟩ : ∃ l3, l3 = l2 ++ pk_num_ a9 := ⟨_, rfl⟩
  have HI3 := Aside0.mk (show Lib.IsBuilder 58 5 w.heap.size g (Lib.byteCells l3) w7 by rw [hl3]; first | exact h1 | (have h2 := h1; simp only [List.append_assoc] at h2; exact h2))
  have HK3 := Aside0.mk (hb1.2 _ _ _ _ HK2.out (by decide) (by omega))
  have HB3 := Aside0.mk (HB2.out.trans hb1.1)
  have hz3 := hb1.size
  have hL3 : l3.length ≤ 1 + (11 + a1.size) + 11 + 11 := by rw [hl3]; simp only [List.length_append]; have hq := pk_num_len a9; omega
  have HE3 := Aside0.mk (show l3 = [UInt8.ofNat (2 : Int).toNat] ++ pk_text_ a1 ++ pk_num_ a2 ++ pk_num_ a9 by rw [hl3, HE2.out])
  clear h1 hb1 hl3 HI2 HK2 HB2 hL2 HE2 kc kk
  have kc : w7.cell? ⟨w.heap.size, 10, none⟩ = some (.slice A10 l10.length c10) := (blk_cell HK3.out 10).trans rfl
  go_wp2_with fail
  refine (pk_count w.heap.size g l3 l10.length (by omega) _ HI3.out (by omega) (by omega)).mono ?_
  rintro e w8 ⟨rfl, h1, hb1⟩
  obtain ⟨l4, hl4⟩ : ∃ l4, l4 = l3 ++ uv 10 l10.length := ⟨_, rfl⟩
  have HI4 := Aside0.mk (show Lib.IsBuilder 58 5 w.heap.size g (Lib.byteCells l4) w8 by rw [hl4]; first | exact h1 | (have h2 := h1; simp only [List.append_assoc] at h2; exact h2))
  have HK4 := Aside0.mk (hb1.2 _ _ _ _ HK3.out (by decide) (by omega))
  have HB4 := Aside0.mk (HB3.out.trans hb1.1)
  have hz4 := hb1.size
  have hL4 : l4.length ≤ 1 + (11 + a1.size) + 11 + 11 + 11 := by rw [hl4]; simp only [List.length_append]; have hq := uv_len 10 l10.length; omega
  have HE4 := Aside0.mk (show l4 = [UInt8.ofNat (2 : Int).toNat] ++ pk_text_ a1 ++ pk_num_ a2 ++ pk_num_ a9 ++ uv 10 l10.length by rw [hl4, HE3.out])
  clear h1 hb1 hl4 HI3 HK3 HB3 hL3 HE3 kc
  have kc : w8.cell? ⟨w.heap.size, 10, none⟩ = some (.slice A10 l10.length c10) := (blk_cell HK4.out 10).trans rfl
  go_wp2_with fail
  go_loopw [63] (fun v63 wr => ∃ (i : Nat) (lx : List UInt8), i ≤ l10.length ∧ v63 = .int .i64 i ∧ lx.length ≤ l4.length + 11 * i ∧ Aside0 (lx = l4 ++ (l10.take i).flatMap pk_num_) ∧ Aside0 (Lib.IsBuilder 58 5 w.heap.size g (Lib.byteCells lx) wr) ∧ Aside0 (wr.heap[w.heap.size]? = some (.cells #[.int .i64 2, .string a1, .int .i64 a2, .string a3, .string a4, .int .i64 a5, .int .i64 a6, .int .i64 a7, .int .i64 a8, .int .i64 a9, .slice A10 l10.length c10, .int .i64 a11, .int .i64 a12] 40 (0, 0))) ∧ Aside0 (Below w.heap.size w wr) ∧ g < wr.heap.size) (fun v63 _ => l10.length - (intOf v63).toNat)
  case atStart => exact ⟨0, l4, by omega, rfl, by omega, ⟨by simp⟩, HI4, HK4, HB4, by omega⟩
  case round =>
  obtain ⟨i, lx, hi, rfl, hlx, HX, HIx, HKx, HBx, hzx⟩ := hrel
  by_cases hlt : i < l10.length
  · obtain ⟨ad, rfl, hx⟩ := Kd.at_int HR.out (i : Int) (by omega) (by omega)
    replace hx := (HBx.out.cell (World.block_lt_of_cell? w _ hx)).trans hx
    rw [Int.toNat_natCast] at hx
    have hv : rd l10 (i : Int) = l10[i] := by unfold rd; rw [Int.toNat_natCast, List.getD_eq_getElem?_getD, List.getElem?_eq_getElem hlt]; rfl
    have Hr := Aside0.mk (HV.out _ (List.getElem_mem hlt))
    have Hs := Aside0.mk (List.take_succ_eq_append_getElem hlt)
    rw [hv] at hx
    clear hv
    generalize l10[i] = v at hx Hr Hs
    go_wp2_with fail
    refine (pk_number w.heap.size g lx v Hr.out _ HIx.out (by omega) (by omega)).mono ?_
    rintro e wn ⟨rfl, h1, hb1⟩
    have HIn := Aside0.mk h1
    have HKn := Aside0.mk (hb1.2 _ _ _ _ HKx.out (by decide) (by omega))
    have HBn := Aside0.mk (HBx.out.trans hb1.1)
    have hzn := hb1.size
    have hq := pk_num_len v
    have HXn := Aside0.mk (show lx ++ pk_num_ v = l4 ++ (l10.take (i + 1)).flatMap pk_num_ by rw [HX.out, Hs.out, List.flatMap_append, List.append_assoc]; simp)
    clear h1 hb1 HIx HKx HBx HX Hs hx
    go_wp2_with fail
    go_roundw
    case rel => exact ⟨i + 1, _, by omega, by go_num, by show (lx ++ pk_num_ v).length ≤ _; rw [List.length_append]; omega, HXn, HIn, HKn, HBn, by omega⟩
    case measure => simp [intOf]; omega
  have hil : i = l10.length := by omega
  have HX' := Aside0.mk (show lx = l4 ++ l10.flatMap pk_num_ by rw [HX.out, hil, List.take_length])
  have hlx' : lx.length ≤ l4.length + 11 * l10.length := by omega
  clear HX hlx hil HI4 HK4 HB4 kc
  obtain ⟨l5, rfl⟩ : ∃ l', l' = lx := ⟨_, rfl⟩
  have HE5 := Aside0.mk (show l5 = [UInt8.ofNat (2 : Int).toNat] ++ pk_text_ a1 ++ pk_num_ a2 ++ pk_num_ a9 ++ uv 10 l10.length ++ l10.flatMap pk_num_ by rw [HX'.out, HE4.out])
  have hL5 : l5.length ≤ 1 + (11 + a1.size) + 11 + 11 + 11 + 11 * l10.length := by omega
  have HI5 := HIx
  have HK5 := HKx
  have HB5 := HBx
  have hz5 := hzx
  clear HIx HKx HBx HX' HE4 hL4 hlx'
  generalize hwr : wr = w9 at *
  clear hwr
  have kc : w9.cell? ⟨w.heap.size, 11, none⟩ = some (.int .i64 a11) := (blk_cell HK5.out 11).trans rfl
  have kd : w9.cell? ⟨w.heap.size, 12, none⟩ = some (.int .i64 a12) := (blk_cell HK5.out 12).trans rfl
  go_wp2_with fail
  refine (pk_ratio w.heap.size g l5 a11 a12 Ra11.out Ra12.out _ HI5.out (by omega) (by omega)).mono ?_
  rintro e w10 ⟨rfl, h1, hb1⟩
  obtain ⟨l6, hl6⟩ : ∃ l6, l6 = l5 ++ (pk_num_ a11 ++ pk_num_ a12) := ⟨_, rfl⟩
  have HI6 := Aside0.mk (show Lib.IsBuilder 58 5 w.heap.size g (Lib.byteCells l6) w10 by rw [hl6]; first | exact h1 | (have h2 := h1; simp only [List.append_assoc] at h2; exact h2))
  have HK6 := Aside0.mk (hb1.2 _ _ _ _ HK5.out (by decide) (by omega))
  have HB6 := Aside0.mk (HB5.out.trans hb1.1)
  have hz6 := hb1.size
  have hL6 : l6.length ≤ 1 + (11 + a1.size) + 11 + 11 + 11 + 11 * l10.length + 22 := by rw [hl6]; simp only [List.length_append]; have hq := pk_num_len a11; have hq2 := pk_num_len a12; omega
  have HE6 := Aside0.mk (show l6 = [UInt8.ofNat (2 : Int).toNat] ++ pk_text_ a1 ++ pk_num_ a2 ++ pk_num_ a9 ++ uv 10 l10.length ++ l10.flatMap pk_num_ ++ (pk_num_ a11 ++ pk_num_ a12) by rw [hl6, HE5.out])
  clear h1 hb1 hl6 HI5 HK5 HB5 hL5 HE5 kc kd
  have HF := Aside0.mk (show l6 = pk_list 2 a1 a2 a3 a4 a5 a6 a7 a8 a9 l10 a11 a12 by rw [HE6.out, pk_list, if_neg (by decide)]; simp only [List.append_assoc])
  clear HE6
  go_wp2_with fail
  refine (pk_len w.heap.size g (Lib.byteCells l6) _ HI6.out).mono ?_
  rintro e wl ⟨rfl, rfl⟩
  rw [Lib.byteCells_length]
  by_cases hgt : l6.length > 65536
  · have hgt' : (65536 : Int) < (l6.length : Int) := by omega
    go_wp2
    go_ret2
    exact ⟨⟨ByteArray.empty, 4, by unfold wire_Pack.g; rw [H.out, Option.bind_some, if_pos rfl, if_pos HSZ.out, if_pos (by rw [← HF.out]; exact hgt)], rfl⟩, HB6.out⟩
  · have hgt' : (l6.length : Int) ≤ 65536 := by omega
    go_wp2_with fail
    refine (pk_string w.heap.size g l6 _ HI6.out (by intro h0; rw [HF.out, pk_list] at h0; simp at h0)).mono ?_
    rintro e ws ⟨rfl, hbs⟩
    have HBs := Aside0.mk (HB6.out.trans hbs)
    clear hbs
    go_wp2
    go_ret2
    exact ⟨⟨_, 0, by unfold wire_Pack.g; rw [H.out, Option.bind_some, if_pos rfl, if_pos HSZ.out, if_neg (by rw [← HF.out]; exact hgt), ← HF.out], rfl⟩, HBs.out⟩
def wire_Pack.f (a0 : Int) (a1 : ByteArray) (a2 : Int) (a3 a4 : ByteArray) (a5 a6 a7 a8 a9 : Int) (l10 : List Int) (a11 a12 : Int) : Option (ByteArray × Int) :=
  if (-9223372036854775808 ≤ a2 ∧ a2 ≤ 9223372036854775807) ∧ (-9223372036854775808 ≤ a5 ∧ a5 ≤ 9223372036854775807) ∧ (-9223372036854775808 ≤ a6 ∧ a6 ≤ 9223372036854775807) ∧ (-9223372036854775808 ≤ a7 ∧ a7 ≤ 9223372036854775807) ∧ (-9223372036854775808 ≤ a8 ∧ a8 ≤ 9223372036854775807) ∧ (-9223372036854775808 ≤ a9 ∧ a9 ≤ 9223372036854775807) ∧ (-9223372036854775808 ≤ a11 ∧ a11 ≤ 9223372036854775807) ∧ (-9223372036854775808 ≤ a12 ∧ a12 ≤ 9223372036854775807) ∧ (∀ v ∈ l10, -9223372036854775808 ≤ v ∧ v ≤ 9223372036854775807) then wire_Pack.g a0 a1 a2 a3 a4 a5 a6 a7 a8 a9 l10 a11 a12 else none
theorem pk_clean_kind {a0 : Int} {a1 : ByteArray} {a2 : Int} {a3 a4 : ByteArray} {a5 a6 a7 a8 a9 : Int} {l10 : List Int} {a11 a12 : Int} (h : wire_clean.f a0 a1 a2 a3 a4 a5 a6 a7 a8 a9 l10 a11 a12 = some true) : a0 = 1 ∨ a0 = 2 := by
  by_cases h1 : a0 = 1
  · exact .inl h1
  · by_cases h2 : a0 = 2
    · exact .inr h2
    · unfold wire_clean.f at h
      rw [if_neg h1, if_neg h2] at h
      cases h
theorem wire_Pack.calls (a0_0 : Int) (a0_1 : ByteArray) (a0_2 : Int) (a0_3 : ByteArray) (a0_4 : ByteArray) (a0_5 : Int) (a0_6 : Int) (a0_7 : Int) (a0_8 : Int) (a0_9 : Int) (A0_10 : Option Addr) (c0_10 : Nat) (l0_10 : List Int) (a0_11 : Int) (a0_12 : Int) (r1 : ByteArray) (r2 : Int) (w : World) (hr0_10 : Kd.C (Kd.int .i64) w A0_10 l0_10.length l0_10) (hc0_10 : l0_10.length ≤ c0_10) (h : wire_Pack.f a0_0 a0_1 a0_2 a0_3 a0_4 a0_5 a0_6 a0_7 a0_8 a0_9 l0_10 a0_11 a0_12 = some (r1, r2)) :
    Calls Try.prog 12 #[.agg #[.int .i64 a0_0, .string a0_1, .int .i64 a0_2, .string a0_3, .string a0_4, .int .i64 a0_5, .int .i64 a0_6, .int .i64 a0_7, .int .i64 a0_8, .int .i64 a0_9, .slice A0_10 l0_10.length c0_10, .int .i64 a0_11, .int .i64 a0_12]] w fun e w' => e = .returned (.tuple #[.string r1, .int .i64 r2]) ∧ Below w.heap.size w w' := by
  unfold wire_Pack.f at h
  split at h
  · rename_i hg
    obtain ⟨g2, g5, g6, g7, g8, g9, g11, g12, gv⟩ := hg
    have h' := h
    unfold wire_Pack.g at h
    obtain ⟨c, hc, h⟩ := Option.bind_eq_some_iff.mp h
    cases c with
    | false =>
      rw [if_neg (by decide)] at h
      cases h
      exact pk_walk0 a0_0 a0_1 a0_2 a0_3 a0_4 a0_5 a0_6 a0_7 a0_8 a0_9 A0_10 c0_10 l0_10 a0_11 a0_12 w hr0_10 hc0_10 hc
    | true =>
      rw [if_pos rfl] at h
      split at h
      · rename_i hsz
        clear h
        rcases pk_clean_kind hc with h1 | h2
        · refine (pk_walk1 a0_0 a0_1 a0_2 a0_3 a0_4 a0_5 a0_6 a0_7 a0_8 a0_9 A0_10 c0_10 l0_10 a0_11 a0_12 g2 g5 g6 g7 g8 w hr0_10 hc0_10 hc hsz h1).mono ?_
          rintro e w' ⟨⟨s, n, hs, he⟩, hb⟩
          rw [← h1, h'] at hs
          injection hs with hs
          injection hs with e1 e2
          subst e1
          subst e2
          exact ⟨he, hb⟩
        · refine (pk_walk2 a0_0 a0_1 a0_2 a0_3 a0_4 a0_5 a0_6 a0_7 a0_8 a0_9 A0_10 c0_10 l0_10 a0_11 a0_12 g2 g9 g11 g12 w hr0_10 hc0_10 hc hsz gv h2).mono ?_
          rintro e w' ⟨⟨s, n, hs, he⟩, hb⟩
          rw [← h2, h'] at hs
          injection hs with hs
          injection hs with e1 e2
          subst e1
          subst e2
          exact ⟨he, hb⟩
      · cases h
  · cases h


end Go.Proofs.Ytdfeidpkdbleaaa.PC

/- Functions of the translated program as Lean functions, and what their calls come to: written by this session's own program (wip/xprint.py) over the kit's print. Conditions stand in each theorem. -/
import Derived.Test.YtjehjjpejmdfiaaPAx0
namespace Go.Proofs.Ytjehjjpejmdfiaa.PA
open Go.RowKit Go.Proofs.YtjehjjpejmdfiaaW.PrintWords Go.Proofs.YtjehjjpejmdfiaaW.PrintLast Go.Proofs.YtjehjjpejmdfiaaW.PrintMore
attribute [local go_sem] max2_int min2_int max_two min_two max_three min_three max_four min_four   -- for this text's walks alone
set_option linter.unusedVariables false
set_option linter.unusedSimpArgs false

/-! ### hushref12_Mod: function 7 -/
def hushref12_Mod.f (a0 : Int) (a1 : Int) : Option (Int) := if a1 = 0 then (none) else (some (Int.tmod (wrap64 ((Int.tmod a0 a1) + a1)) a1))
set_option maxHeartbeats 8000000 in
set_option maxRecDepth 100000 in
theorem hushref12_Mod.calls (a0 : Int) (a1 : Int) (r : Int) (w : World) (h : hushref12_Mod.f a0 a1 = some r) :
    Calls Try.prog 7 #[.int .i64 a0, .int .i64 a1] w fun e w' => e = .returned (.int .i64 r) ∧ Drawn0 w w' := by
  have H : (if a1 = 0 then (none) else (some (Int.tmod (wrap64 ((Int.tmod a0 a1) + a1)) a1))) = some r := h
  clear h
  by_cases c3 : a1 = 0
  · rw [if_pos c3] at H
    exact absurd H (by simp)
  · rw [if_neg c3] at H
    have c3b0 : (a1 == 0) = false := beq_eq_false_iff_ne.mpr c3
    have c3b1 : (a1 != 0) = true := bne_iff_ne.mpr c3
    obtain rfl := Option.some.inj H
    go_enter Try.func7, Try.ntmps7
    go_wp2
    go_ret
    exact ⟨by first | rfl | (simp; done) | (simp [*]; done), by repeat (first | exact Drawn0.refl _ | apply Drawn0.step)⟩

/-! ### hushlaw12_shares: function 8 -/
theorem sh_zero (n : Nat) (hn : n ≤ 16) : ∀ W : World, (Instr.makeSlice 22 (.int .i64 (n : Int)) (.int .i64 (n : Int))).run Try.prog W = .ok (.slice (some ⟨W.heap.size, 0, none⟩) n n) (W.alloc (.cells (madeCells #[.int .i64 0] n) 3)) :=
  print_make 22 3 .i64 8 (by kernel_rfl) (by kernel_rfl) (by decide) n (by omega)
theorem sh_rows (n : Nat) (hn : n ≤ 16) : ∀ W : World, (Instr.makeSlice 25 (.int .i64 (n : Int)) (.int .i64 (n : Int))).run Try.prog W = .ok (.slice (some ⟨W.heap.size, 0, none⟩) n n) (W.alloc (.cells (madeCells #[.slice none 0 0] n) 22)) :=
  print_make_of 25 22 (.slice none 0 0) 24 (by kernel_rfl) (by kernel_rfl) (by rfl) (by decide) n (by omega)
/-- The rows' values: the first m are there, each in a block of its own behind B. -/
def sh_vals (B n m : Nat) : List Value := (List.range n).map (fun j => if j < m then .slice (some ⟨B + 1 + j, 0, none⟩) n n else .slice none 0 0)
def sh_mat (w : World) (B n : Nat) (M : List (List Int)) : Prop :=
  M.length ≤ n ∧ w.heap.size = B + 1 + M.length ∧ w.heap[B]? = some (.cells (sh_vals B n M.length).toArray 22 (0, 0)) ∧ ∀ j r, M[j]? = some r → r.length = n ∧ w.heap[B + 1 + j]? = some (.cells (nums .i64 r).toArray 3 (0, 0))
theorem sh_made (n : Nat) : (madeCells #[Value.int .i64 0] n) = (nums .i64 (List.replicate n 0)).toArray := by
  apply Array.ext'
  apply List.ext_getElem
  · simp [nums, madeCells]
  · intro i h1 h2
    simp [nums, madeCells, Nat.mod_one]
theorem sh_madeR (B n : Nat) : (madeCells #[Value.slice none 0 0] n) = (sh_vals B n 0).toArray := by
  apply Array.ext'
  apply List.ext_getElem
  · simp [sh_vals, madeCells]
  · intro i h1 h2
    simp [sh_vals, madeCells, Nat.mod_one]
theorem sh_vals_at (B n m i : Nat) (hi : i < n) : (sh_vals B n m).toArray[i]? = some (if i < m then .slice (some ⟨B + 1 + i, 0, none⟩) n n else .slice none 0 0) := by
  simp [sh_vals, hi]
theorem sh_vals_set (B n m : Nat) (hm : m < n) : (sh_vals B n m).toArray.setIfInBounds m (.slice (some ⟨B + 1 + m, 0, none⟩) n n) = (sh_vals B n (m + 1)).toArray := by
  apply Array.ext'
  apply List.ext_getElem
  · simp [sh_vals]
  · intro i h1 h2
    simp only [sh_vals, List.setIfInBounds_toArray, List.getElem_set, List.getElem_map, List.getElem_range]
    by_cases h : m = i
    · subst h; simp
    · rw [if_neg h]
      by_cases h3 : i < m
      · rw [if_pos h3, if_pos (by omega)]
      · rw [if_neg h3, if_neg (by omega)]
theorem sh_mat0 (w : World) (n : Nat) : sh_mat (w.alloc (.cells (madeCells #[.slice none 0 0] n) 22)) w.heap.size n [] := by
  refine ⟨Nat.zero_le _, by simp, ?_, fun j r h => by simp at h⟩
  rw [sh_madeR w.heap.size]
  exact blk_new w _
theorem sh_mat_row {w : World} {B n : Nat} {M : List (List Int)} (h : sh_mat w B n M) (hm : M.length < n) :
    sh_mat ((w.setCell ⟨B, M.length, none⟩ (.slice (some ⟨w.heap.size, 0, none⟩) n n)).alloc (.cells (madeCells #[.int .i64 0] n) 3)) B n (M ++ [List.replicate n 0]) := by
  obtain ⟨h0, h1, h2, h3⟩ := h
  refine ⟨by simp; omega, by simp; omega, ?_, ?_⟩
  · have := blk_alloc (blk_set h2 M.length (.slice (some ⟨w.heap.size, 0, none⟩) n n)) (.cells (madeCells #[.int .i64 0] n) 3)
    rw [this, List.length_append, List.length_singleton, ← sh_vals_set B n _ hm, h1]
  · intro j r hj
    by_cases hl : j < M.length
    · rw [List.getElem?_append_left hl] at hj
      obtain ⟨e1, e2⟩ := h3 j r hj
      refine ⟨e1, blk_alloc ?_ _⟩
      rw [Below.heap_setCell _ _ _ _ (by simp; omega)]
      exact e2
    · rw [List.getElem?_append_right (by omega)] at hj
      have hj0 : j - M.length = 0 := by
        rcases Nat.eq_zero_or_pos (j - M.length) with h | h
        · exact h
        · rw [List.getElem?_eq_none (by simp; omega)] at hj; cases hj
      rw [hj0] at hj
      obtain rfl : List.replicate n 0 = r := by simpa using hj
      have hs := blk_new (w.setCell ⟨B, M.length, none⟩ (.slice (some ⟨w.heap.size, 0, none⟩) n n)) (.cells (madeCells #[.int .i64 0] n) 3)
      rw [World.size_setCell] at hs
      have : B + 1 + j = w.heap.size := by omega
      rw [this, ← sh_made]
      exact ⟨by simp, hs⟩
theorem sh_mat_rowcell {w : World} {B n : Nat} {M : List (List Int)} (h : sh_mat w B n M) {i : Nat} (hi : i < n) : w.cell? ⟨B, i, none⟩ = some (if i < M.length then .slice (some ⟨B + 1 + i, 0, none⟩) n n else .slice none 0 0) ∧ w.frozen? ⟨B, i, none⟩ = false ∧ B < w.heap.size :=
  ⟨(blk_cell h.2.2.1 i).trans (sh_vals_at B n M.length i hi), blk_frozen h.2.2.1 i, blk_lt h.2.2.1⟩

def sh_put (M : List (List Int)) (i k : Nat) (s : Int) : List (List Int) := (M.set i ((M.getD i []).set k s)).set k (((M.set i ((M.getD i []).set k s)).getD k []).set i s)
def sh_s (a0 : Int) (l : List Int) (c : Nat) : Option Int := if c < l.length then hushref12_Mod.f (rd l (c : Int)) a0 else some 0
def sh_in (a0 : Int) (l : List Int) (i : Nat) : Nat → Nat → Nat → List (List Int) → Option (Nat × List (List Int))
  | 0, _, c, M => some (c, M)
  | d + 1, k, c, M => (sh_s a0 l c).bind fun s => sh_in a0 l i d (k + 1) (c + 1) (sh_put M i k s)
def sh_out (a0 : Int) (l : List Int) (n : Nat) : Nat → Nat → Nat → List (List Int) → Option (List (List Int))
  | 0, _, _, M => some M
  | d + 1, i, c, M => (sh_in a0 l i d (i + 1) c M).bind fun r => sh_out a0 l n d (i + 1) r.1 r.2
theorem sh_mat_put1 {w : World} {B n : Nat} {M : List (List Int)} (h : sh_mat w B n M) (i k : Nat) (hi : i < M.length) (hk : k < n) (s : Int) :
    sh_mat (w.setCell ⟨B + 1 + i, k, none⟩ (.int .i64 s)) B n (M.set i ((M.getD i []).set k s)) := by
  obtain ⟨h0, h1, h2, h3⟩ := h
  refine ⟨by simpa using h0, by simpa using h1, ?_, ?_⟩
  · rw [Below.heap_setCell _ _ _ _ (by simp; omega), List.length_set]
    exact h2
  · intro j r hj
    by_cases hij : i = j
    · subst hij
      have hg : M[i]? = some M[i] := List.getElem?_eq_getElem hi
      rw [List.getElem?_set_self (by omega)] at hj
      obtain rfl : (M.getD i []).set k s = r := by simpa using hj
      rw [List.getD_eq_getElem?_getD, hg]
      obtain ⟨e1, e2⟩ := h3 i _ hg
      refine ⟨by simpa using e1, ?_⟩
      rw [blk_set e2]
      congr 2
      simp [nums, List.map_set]
    · rw [List.getElem?_set_ne hij] at hj
      obtain ⟨e1, e2⟩ := h3 j r hj
      exact ⟨e1, by rw [Below.heap_setCell _ _ _ _ (by simp; omega)]; exact e2⟩
theorem sh_mat_put {w : World} {B n : Nat} {M : List (List Int)} (h : sh_mat w B n M) (i k : Nat) (hi : i < M.length) (hk : k < M.length) (s : Int) :
    sh_mat ((w.setCell ⟨B + 1 + i, k, none⟩ (.int .i64 s)).setCell ⟨B + 1 + k, i, none⟩ (.int .i64 s)) B n (sh_put M i k s) := by
  have hn := h.1
  exact sh_mat_put1 (sh_mat_put1 h i k hi (by omega) s) k i (by simpa using hk) (by omega) s
theorem sh_mat_cell {w : World} {B n : Nat} {M : List (List Int)} (h : sh_mat w B n M) {i k : Nat} (hi : i < M.length) (hk : k < n) : (∃ v, w.cell? ⟨B + 1 + i, k, none⟩ = some v) ∧ w.frozen? ⟨B + 1 + i, k, none⟩ = false ∧ B + 1 + i < w.heap.size := by
  obtain ⟨e1, e2⟩ := h.2.2.2 i _ (List.getElem?_eq_getElem hi)
  refine ⟨⟨_, (blk_cell e2 k).trans (List.getElem?_toArray.trans (List.getElem?_eq_getElem (show k < (nums .i64 M[i]).length by rw [nums_length]; omega)))⟩, blk_frozen e2 k, blk_lt e2⟩
theorem sh_mat_drew {w : World} {B n : Nat} {M : List (List Int)} (h : sh_mat w B n M) (m : Nat) : sh_mat (w.drewN m) B n M := by
  obtain ⟨h0, h1, h2, h3⟩ := h
  exact ⟨h0, h1, h2, h3⟩
theorem sh_S {w : World} {B n : Nat} {M : List (List Int)} (h : sh_mat w B n M) (hM : M.length = n) (hn : n ≤ 16) : Kd.S (Kd.slice 3 (Kd.int .i64)) 22 w B (fun _ => True) (.slice (some ⟨B, 0, none⟩) n n) M := by
  obtain ⟨h0, h1, h2, h3⟩ := h
  refine ⟨fun k => k - (B + 1), fun _ _ => trivial, (sh_vals B n n), ?_, ?_, ?_⟩
  · rw [List.length_zipIdx]
    refine ⟨by show (sh_vals B n n).length = M.length * 1; simp [sh_vals, hM], .inr ⟨B, n, _, by rw [hM], Nat.le_refl _, h2, by omega, by simp [maxLen]; omega, by show (sh_vals B n M.length).toArray.size = n * 1; simp [sh_vals], ?_⟩⟩
    show List.take (M.length * 1) (sh_vals B n M.length) = sh_vals B n n
    rw [hM, List.take_of_length_le (by simp [sh_vals])]
  · rw [List.length_zipIdx]
    show (sh_vals B n n).length = M.length * 1
    simp [sh_vals, hM]
  · intro j p hj
    have hjl : j < M.length := by
      have := (List.getElem?_eq_some_iff.1 hj).1
      rw [List.length_zipIdx] at this
      exact this
    have hp : p = (M[j], j) := by
      rw [Kd.zip_at (List.getElem?_eq_getElem hjl)] at hj
      exact (Option.some.inj hj).symm
    subst hp
    obtain ⟨e1, e2⟩ := h3 j _ (List.getElem?_eq_getElem hjl)
    have hs : ((sh_vals B n n).drop (j * 1)).take 1 = [.slice (some ⟨B + 1 + j, 0, none⟩) n n] := by
      rw [Nat.mul_one, List.take_one, List.head?_drop]
      simp [sh_vals, show j < n by omega]
    refine ⟨_, hs, Kd.R_of_own ?_ (fun k hk => ?_)⟩
    · refine ⟨by simp [encs], .inr ⟨B + 1 + j, n, _, by show Value.slice _ _ _ = Value.slice _ M[j].length _; rw [e1], by omega, e2, by show M[j].length ≤ n; omega, by simp [maxLen]; omega, by simp [nums_length]; omega, ?_⟩⟩
      show List.take (M[j].length * 1) (nums .i64 M[j]) = _
      rw [Nat.mul_one, List.take_of_length_le (by simp [nums_length])]
      rfl
    · simp only [Value.ownBlock, Option.some.injEq] at hk
      subst hk
      refine ⟨⟨trivial, ?_⟩, by show B + 1 + j - (B + 1) = j; omega⟩
      simp only [Value.ownBlock, ne_eq, Option.some.injEq]
      omega
set_option maxHeartbeats 2000000 in
theorem sh_walk (a0 : Int) (n : Nat) (hn : n ≤ 16) (A2 : Option Addr) (c2 : Nat) (l2 : List Int) (w : World) (hr2 : Kd.C (Kd.int .i64) w A2 l2.length l2) (R : List (List Int)) (hR : sh_out a0 l2 n n 0 0 (List.replicate n (List.replicate n 0)) = some R) :
    Calls Try.prog 8 #[.int .i64 a0, .int .i64 n, .slice A2 l2.length c2] w fun e w' => ∃ v0_ : Value, e = .returned v0_ ∧ Kd.S (Kd.slice 3 (Kd.int .i64)) 22 w' w.heap.size (fun _ => True) v0_ R ∧ Below w.heap.size w w' := by
  have h1 := sh_zero n hn
  have h2 := sh_rows n hn
  have H2 := Aside0.mk hr2
  have HR := Aside0.mk hR
  have hll : l2.length ≤ 9223372036854775807 := hr2.2.1
  have HL := Aside0.mk hll
  clear hr2 hR hll
  go_enter Try.func8, Try.ntmps8
  go_wp2
  go_loopw [17] (fun v17 wr => ∃ i : Nat, i ≤ n ∧ v17 = .int .i64 i ∧ Aside0 (sh_mat wr w.heap.size n (List.replicate i (List.replicate n 0))) ∧ Aside0 (Below w.heap.size w wr)) (fun v17 _ => n - (intOf v17).toNat)
  case atStart => exact ⟨0, by omega, rfl, ⟨sh_mat0 w n⟩, ⟨below_alloc (Below.refl _ _) _⟩⟩
  case round =>
    obtain ⟨i, hi, rfl, HM, HB⟩ := hrel
    by_cases hlt : i < n
    · obtain ⟨e1, e2, e3⟩ := sh_mat_rowcell HM.out hlt
      rw [if_neg (by simp)] at e1
      have HM' := Aside0.mk (sh_mat_row HM.out (by simpa using hlt))
      clear HM
      go_wp2
      go_roundw
      case rel => exact ⟨i + 1, by omega, by go_num, ⟨by have := HM'.out; rw [List.length_replicate, ← List.replicate_succ'] at this; exact this⟩, ⟨below_alloc (below_set HB.out (Nat.le_refl _)) _⟩⟩
      case measure => simp [intOf]; omega
    · have hin : n = i := by omega
      subst hin
      clear h1 h2 hlt hi
      go_wp2
      go_loopw [10, 9] (fun v10 v9 wr => ∃ (i c : Nat) (M : List (List Int)), i ≤ n ∧ M.length = n ∧ v10 = .int .i64 i ∧ v9 = .int .i64 c ∧ c ≤ 16 * i ∧ Aside0 (sh_out a0 l2 n (n - i) i c M = some R) ∧ Aside0 (sh_mat wr w.heap.size n M) ∧ Aside0 (Below w.heap.size w wr)) (fun v10 _ _ => n - (intOf v10).toNat)
      case atStart => exact ⟨0, 0, _, by omega, by simp, rfl, rfl, by omega, HR, HM, HB⟩
      case round =>
        clear HM HB
        obtain ⟨i, c, M, hi, hM, rfl, rfl, hc, HO, HM, HB⟩ := hrel
        by_cases hlt : i < n
        · have HO' := Aside0.mk (show sh_out a0 l2 n (n - i - 1 + 1) i c M = some R by rw [show n - i - 1 + 1 = n - i by omega]; exact HO.out)
          clear HO
          have HO := HO'.out
          rw [sh_out] at HO
          obtain ⟨⟨c', M'⟩, HI, HO⟩ := Option.bind_eq_some_iff.mp HO
          have HI := Aside0.mk HI
          have HO := Aside0.mk HO
          clear HO'
          go_wp2
          go_loopw [11, 9] (fun v11 v9 wr => ∃ (k c : Nat) (M : List (List Int)), i < k ∧ k ≤ n ∧ M.length = n ∧ v11 = .int .i64 k ∧ v9 = .int .i64 c ∧ c ≤ 16 * i + k ∧ Aside0 (sh_in a0 l2 i (n - k) k c M = some (c', M')) ∧ Aside0 (sh_mat wr w.heap.size n M) ∧ Aside0 (Below w.heap.size w wr)) (fun v11 _ _ => n - (intOf v11).toNat)
          case atStart => exact ⟨i + 1, c, M, by omega, by omega, hM, by go_num, rfl, by omega, ⟨by have := HI.out; rw [show n - (i + 1) = n - i - 1 by omega]; exact this⟩, HM, HB⟩
          case round =>
            clear HM HB HI hM hc
            obtain ⟨k, c, M, hik, hk, hM, rfl, rfl, hc, HI, HM, HB⟩ := hrel
            by_cases hkn : k < n
            · have HI' := Aside0.mk (show sh_in a0 l2 i (n - k - 1 + 1) k c M = some (c', M') by rw [show n - k - 1 + 1 = n - k by omega]; exact HI.out)
              clear HI
              have HI := HI'.out
              rw [sh_in] at HI
              obtain ⟨s, HS, HI⟩ := Option.bind_eq_some_iff.mp HI
              have HI := Aside0.mk HI
              clear HI'
              obtain ⟨a1, a2, a3⟩ := sh_mat_rowcell HM.out hlt
              obtain ⟨b1, b2, b3⟩ := sh_mat_rowcell HM.out hkn
              rw [if_pos (by omega)] at a1 b1
              by_cases hcl : c < l2.length
              · rw [sh_s, if_pos hcl] at HS
                have HS := Aside0.mk HS
                obtain ⟨ad, rfl, hx⟩ := Kd.at_int H2.out (c : Int) (by omega) (by omega)
                replace hx := (HB.out.cell (World.block_lt_of_cell? w _ hx)).trans hx
                rw [Int.toNat_natCast] at hx
                go_wp2_with (go_at_call 7; (with_reducible refine (hushref12_Mod.calls _ a0 s _ HS.out).mono ?_); rintro e w3 ⟨rfl, nd, hq⟩)
                subst hq
                obtain ⟨⟨p1, x1⟩, p2, p3⟩ := sh_mat_cell (sh_mat_drew HM.out nd) (show i < M.length by omega) hkn
                obtain ⟨⟨q1, y1⟩, q2, q3⟩ := sh_mat_cell (sh_mat_drew HM.out nd) (show k < M.length by omega) hlt
                obtain ⟨a1, a2, a3⟩ := sh_mat_rowcell (sh_mat_drew HM.out nd) hlt
                obtain ⟨b1, b2, b3⟩ := sh_mat_rowcell (sh_mat_drew HM.out nd) hkn
                rw [if_pos (by omega)] at a1 b1
                have Hnew := Aside0.mk (sh_mat_put (sh_mat_drew HM.out nd) i k (by omega) (by omega) s)
                have HBn := Aside0.mk (pw_below_drewN HB.out nd)
                clear HM HB hx
                generalize wr.drewN nd = w4 at *
                go_region
                all_goals
                  go_wp2
                  go_roundw
                  case rel => exact ⟨k + 1, c + 1, _, by omega, by omega, by simp [sh_put, hM], by go_num, by go_num, by omega, ⟨by have := HI.out; rw [show n - (k + 1) = n - k - 1 by omega]; exact this⟩, ⟨sh_mat_drew Hnew.out 1⟩, ⟨below_drew1 (below_set (below_set HBn.out (by omega)) (by omega))⟩⟩
                  case measure => simp [intOf]; omega
              · rw [sh_s, if_neg hcl] at HS
                obtain rfl : 0 = s := Option.some.inj HS
                obtain ⟨⟨p1, x1⟩, p2, p3⟩ := sh_mat_cell HM.out (show i < M.length by omega) hkn
                obtain ⟨⟨q1, y1⟩, q2, q3⟩ := sh_mat_cell HM.out (show k < M.length by omega) hlt
                have Hnew := Aside0.mk (sh_mat_put HM.out i k (by omega) (by omega) 0)
                have HBn := Aside0.mk HB.out
                clear HM HB
                go_wp2
                go_region
                all_goals
                  go_wp2
                  go_roundw
                  case rel => exact ⟨k + 1, c + 1, _, by omega, by omega, by simp [sh_put, hM], by go_num, by go_num, by omega, ⟨by have := HI.out; rw [show n - (k + 1) = n - k - 1 by omega]; exact this⟩, ⟨sh_mat_drew Hnew.out 1⟩, ⟨below_drew1 (below_set (below_set HBn.out (by omega)) (by omega))⟩⟩
                  case measure => simp [intOf]; omega
            · have hkn' : n - k = 0 := by omega
              have HI := HI.out
              rw [hkn', sh_in] at HI
              simp only [Option.some.injEq, Prod.mk.injEq] at HI
              obtain ⟨rfl, rfl⟩ := HI
              go_wp2
              go_roundw
              case rel => exact ⟨i + 1, c, M, by omega, hM, by go_num, rfl, by omega, ⟨by have := HO.out; rw [show n - (i + 1) = n - i - 1 by omega]; exact this⟩, HM, HB⟩
              case measure => simp [intOf]; omega
        · have hin : i = n := by omega
          subst hin
          have HO := HO.out
          rw [Nat.sub_self, sh_out] at HO
          obtain rfl : M = R := Option.some.inj HO
          clear hlt hi hc
          go_wp2
          go_ret
          exact ⟨_, rfl, sh_S HM.out hM hn, HB.out⟩
def hushlaw12_shares.f (a0 a1 : Int) (l2 : List Int) : Option (List (List Int)) := if 0 ≤ a1 ∧ a1 ≤ 16 then sh_out a0 l2 a1.toNat a1.toNat 0 0 (List.replicate a1.toNat (List.replicate a1.toNat 0)) else none
theorem hushlaw12_shares.calls (a0 a1 : Int) (A2 : Option Addr) (c2 : Nat) (l2 : List Int) (r : List (List Int)) (w : World) (hr2 : Kd.C (Kd.int .i64) w A2 l2.length l2) (hc2 : l2.length ≤ c2) (h : hushlaw12_shares.f a0 a1 l2 = some r) :
    Calls Try.prog 8 #[.int .i64 a0, .int .i64 a1, .slice A2 l2.length c2] w fun e w' => ∃ v0_ : Value, e = .returned (v0_) ∧ Kd.S (Kd.slice 3 (Kd.int .i64)) 22 w' w.heap.size (fun _ => True) v0_ r ∧ Below w.heap.size w w' := by
  unfold hushlaw12_shares.f at h
  split at h
  · rename_i h0
    obtain ⟨n, rfl⟩ := Int.eq_ofNat_of_zero_le h0.1
    rw [Int.toNat_natCast] at h
    exact sh_walk a0 n (by omega) A2 c2 l2 w hr2 r h
  · cases h


end Go.Proofs.Ytjehjjpejmdfiaa.PA


/- Functions of the program in Lean, by wip/xprint.py. Conditions: in each theorem. -/
import Derived.Test.YtjbgnlhgjgnclaaPBxs
import Derived.Test.YtjbgnlhgjgnclaaPBx0
import Derived.Test.YtjbgnlhgjgnclaaPBx20
namespace Go.Proofs.Ytjbgnlhgjgnclaa.PB
open Go.RowKit Go.Proofs.YtjbgnlhgjgnclaaW.PrintWords Go.Proofs.YtjbgnlhgjgnclaaW.PrintLast Go.Proofs.YtjbgnlhgjgnclaaW.PrintMore
attribute [local go_sem] max2_int min2_int max_two min_two max_three min_three max_four min_four   -- for this text's walks alone
set_option linter.unusedVariables false
set_option linter.unusedSimpArgs false

/-! ### slices_Repeat_int_int: function 42 -/
theorem slices_Repeat_int_int.mul_all : ∀ x : Fin 65, ∀ y : Fin 64, bits_Mul.f 1 ((x.val * 64 + y.val : Nat) : Int) = some (0, ((x.val * 64 + y.val : Nat) : Int)) := by decide +kernel
theorem slices_Repeat_int_int.mul_is {n : Nat} (h : n ≤ 4096) : bits_Mul.f 1 (n : Int) = some (0, (n : Int)) := by
 have e := slices_Repeat_int_int.mul_all ⟨n / 64, by omega⟩ ⟨n % 64, by omega⟩
 dsimp only at e
 rw [show n / 64 * 64 + n % 64 = n by omega] at e
 exact e
def slices_Repeat_int_int.f (l0 : List Int) (a1 : Int) : Option (List Int) := if l0.length = 1 ∧ 0 ≤ a1 ∧ a1 ≤ 4096 then some (List.replicate a1.toNat (l0.headD 0)) else none
theorem slices_Repeat_int_int.info : (Try.prog.info? 3).map (fun i => (i.zero, i.size, i.bytes)) = some (some (.int .i64 0), 1, 8) := by kernel_rfl
def slices_Repeat_int_int.Cells (g : Nat) (a : Int) (Z : List Value) (m : Nat) (w : World) : Prop := w.heap[g]? = some (.cells (List.replicate m (Value.int .i64 a) ++ Z.drop m).toArray 3 (0, 0))
theorem slices_Repeat_int_int.splice_rep (a : Int) (Z : List Value) (m c : Nat) (h : m + c ≤ Z.length) : splice (List.replicate m (Value.int .i64 a) ++ Z.drop m) m (List.replicate c (Value.int .i64 a)) = List.replicate (m + c) (Value.int .i64 a) ++ Z.drop (m + c) := by
 unfold splice
 rw [List.take_append_of_le_length (by simp), List.take_of_length_le (by simp), List.drop_append, List.length_replicate, List.length_replicate, List.drop_of_length_le (by simp), List.nil_append, List.drop_drop, ← List.append_assoc, List.replicate_append_replicate]
 congr 2
 omega
set_option maxHeartbeats 4000000 in
set_option maxRecDepth 100000 in
theorem slices_Repeat_int_int.walk (a : Int) (n : Nat) (hn : n ≤ 4096) (A0 : Option Addr) (c0 : Nat) (w : World) (hr0 : Kd.C (Kd.int .i64) w A0 1 [a]) (hc0 : 1 ≤ c0) :
  Calls Try.prog 42 #[.slice A0 1 c0, .int .i64 n] w fun e w' => ∃ v0_ : Value, e = .returned v0_ ∧ Kd.R (Kd.int .i64) 3 w' w.heap.size (fun _ => True) v0_ (List.replicate n a) ∧ Below w.heap.size w w' := by
 obtain ⟨i0, hi, hz0, hz1, hz2⟩ := info_parts slices_Repeat_int_int.info
 have HM := Aside0.mk (slices_Repeat_int_int.mul_is hn)
 have HC := Aside0.mk hr0
 clear hr0
 go_enter Try.func42, Try.ntmps42
 go_wp2_with (first | (go_at_call 61; (with_reducible refine (bits_Mul.calls _ _ _ _ _ HM.out).mono ?_); rintro e w' ⟨rfl, ⟨nd, rfl⟩⟩) | (with_reducible refine wpList_make_full _ rfl (.tmp 29) (.tmp 29) 35 rfl w.heap.size 3 i0 (.int .i64 0) 1 Try.underlying35 hi hz0 hz1 .i64 .i64 (n : Int) (n : Int) n rfl rfl rfl rfl ?mb2 ?mb3 ?mb4 ?mk))
 case mb2 => rw [hz2]; omega
 case mb3 => unfold maxLen; omega
 case mb4 => exact Nat.le_refl _
 case mk =>
  intro w1 hown hgr
  have hB1 : Below w.heap.size w w1 := (show Below w.heap.size w (w.drewN nd) from ⟨rfl, rfl, rfl, Nat.le_refl _, fun _ _ => rfl⟩).grown hgr (Nat.le_refl _) (fun k e => by cases e)
  obtain ⟨Z, hZ, hcell⟩ : ∃ Z : List Value, Z.length = n ∧ w1.heap[w.heap.size]? = some (.cells Z.toArray 3 (0, 0)) := by
   obtain ⟨_, ⟨e, _⟩ | ⟨g, cap, cur, e, hb, hgb, h1, h2, h3, h4⟩⟩ := hown
   ·
    cases e
   ·
    cases e
    exact ⟨cur.toList, by simpa using h3, by simpa using hgb⟩
  have HZ := Aside0.mk hZ
  have HCELL := Aside0.mk hcell
  have hsz : (Try.prog.info? 3).map (·.size) = some 1 := by rw [hi]; simp [hz1]
  have HSZ := Aside0.mk hsz
  clear hown hgr hZ hcell hsz hi hz0 hz1 hz2
  have hsrc : 0 < n → ∃ ad, A0 = some ad ∧ w1.cell? ad = some (.int .i64 a) := by
   intro _
   obtain ⟨_, hbig, hr⟩ := Kd.C_below HC.out hB1
   obtain ⟨ad, rfl, hc⟩ := hr (by omega)
   refine ⟨ad, rfl, ?_⟩
   obtain ⟨c, _, hcs, hcc⟩ := hc 0 a rfl
   have hcs' : c = [.int .i64 a] := hcs
   have := hcc 0 (.int .i64 a) (by rw [hcs']; rfl)
   simpa [Addr.add, Kd.int] using this
  have HSRC := Aside0.mk hsrc
  clear hsrc
  go_wp2_with (with_reducible refine wpList_copy_splice rfl (.tmp 31) (.tmp 32) 35 35 rfl 3 Try.underlying35 HSZ.out (some ⟨w.heap.size, 0, none⟩) A0 n n 1 c0 rfl rfl w.heap.size 0 Z 3 HCELL.out (List.replicate (Nat.min 1 n) (Value.int .i64 a)) ?pn ?pp ?pf ?p1 w.heap.size w hB1 (Nat.le_refl _) ?pk)
  case pn => simp
  case pp =>
   intro hp
   have h0 : 0 < n := by have : Nat.min 1 n ≤ n := Nat.min_le_right _ _; omega
   obtain ⟨ad, e, hc⟩ := HSRC.out h0
   refine ⟨ad, e, fun j v hj => ?_⟩
   obtain ⟨hl, hv⟩ := List.getElem?_eq_some_iff.1 hj
   rw [List.length_replicate] at hl
   have hj0 : j = 0 := by have : Nat.min 1 n ≤ 1 := Nat.min_le_left _ _; omega
   subst hj0
   rw [List.getElem_replicate] at hv
   rw [← hv]
   have e0 : ad.add 0 = ad := by simp [Addr.add]
   rw [e0]
   exact hc
  case pf => rw [List.length_replicate, HZ.out]; have : Nat.min 1 n ≤ n := Nat.min_le_right _ _; omega
  case p1 =>
   intro v hv
   rw [List.eq_of_mem_replicate hv]
   rfl
  case pk =>
   intro w2 hc2 hB2
   have hc2' : slices_Repeat_int_int.Cells w.heap.size a Z (Nat.min 1 n) w2 := by
    have h := slices_Repeat_int_int.splice_rep a Z 0 (Nat.min 1 n) (by rw [HZ.out]; have : Nat.min 1 n ≤ n := Nat.min_le_right _ _; omega)
    rw [List.replicate_zero, List.nil_append, List.drop_zero, Nat.zero_add] at h
    unfold slices_Repeat_int_int.Cells
    rw [← h]
    exact hc2
   clear hc2 HSRC HCELL hB1
   have hm1 : Nat.min 1 n ≤ n := Nat.min_le_right _ _
   have hm2 : 0 < n → 1 ≤ Nat.min 1 n := fun h => Nat.le_min.2 ⟨Nat.le_refl 1, h⟩
   generalize Nat.min 1 n = m0 at *
   go_wp2
   go_loopw [8] (fun v8 wr => ∃ m : Nat, v8 = .int .i64 m ∧ m ≤ n ∧ (0 < n → 1 ≤ m) ∧ slices_Repeat_int_int.Cells w.heap.size a Z m wr ∧ Below w.heap.size w wr) (fun v8 _ => n - (intOf v8).toNat)
   case atStart => exact ⟨m0, rfl, hm1, hm2, hc2', hB2⟩
   case round =>
    obtain ⟨m, rfl, hm, hm3, hc, hB⟩ := hrel
    by_cases hlt : m < n
    ·
     have hm4 := hm3 (by omega)
     have hw1 : IntKind.i64.wrap ((m : Int) + ((Nat.min m (n - m) : Nat) : Int)) = ((m + Nat.min m (n - m) : Nat) : Int) := by
      have h1 : Nat.min m (n - m) ≤ n - m := Nat.min_le_right _ _
      rw [IntWalk.i64_in _ (by omega)]; omega
     have hw2 : ((n : Int) - (m : Int)).toNat = n - m := by omega
     have HW := Aside0.mk hw1
     have hnm : ¬ n = m := by omega
     clear hw1
     have hlen : (List.replicate (Nat.min m (n - m)) (Value.int .i64 a)).length = Nat.min m (n - m) := List.length_replicate
     have hmin : Nat.min m (n - m) ≤ n - m := Nat.min_le_right _ _
     have hfit : m + (List.replicate (Nat.min m (n - m)) (Value.int .i64 a)).length ≤ (List.replicate m (Value.int .i64 a) ++ Z.drop m).length := by
      rw [hlen, List.length_append, List.length_replicate, List.length_drop, HZ.out]; omega
     have hone : ∀ v ∈ List.replicate (Nat.min m (n - m)) (Value.int .i64 a), v.oneCell' = true := fun v hv => by rw [List.eq_of_mem_replicate hv]; rfl
     have hcl : ∀ j v, (List.replicate (Nat.min m (n - m)) (Value.int .i64 a))[j]? = some v → wr.cell? (Addr.add ⟨w.heap.size, 0, none⟩ j) = some v := by
      intro j v hj
      obtain ⟨hl, hv⟩ := List.getElem?_eq_some_iff.1 hj
      rw [hlen] at hl
      have hjm : j < m := by have : Nat.min m (n - m) ≤ m := Nat.min_le_left _ _; omega
      rw [List.getElem_replicate] at hv
      have h := blk_cell hc j
      rw [← hv]
      have e0 : Addr.add ⟨w.heap.size, 0, none⟩ j = ⟨w.heap.size, j, none⟩ := by
       unfold Addr.add
       by_cases h0 : j = 0
       ·
        subst h0; simp
       ·
        simp [h0]
      rw [e0]
      simpa [List.getElem?_append, hjm] using h
     have hBd : ∀ q, Below w.heap.size w (wr.drewN q) := fun q => hB.trans ⟨rfl, rfl, rfl, Nat.le_refl _, fun _ _ => rfl⟩
     have HLEN := Aside0.mk hlen
     have HFIT := Aside0.mk hfit
     have HONE := Aside0.mk hone
     have HCL := Aside0.mk hcl
     have HBD := Aside0.mk hBd
     have HCC := Aside0.mk hc
     clear hlen hfit hone hcl hBd hc
     go_wp2
     go_region_law (refine step_copy_splice rfl (.tmp 41) (.tmp 44) 35 35 rfl 3 Try.underlying35 HSZ.out (some ⟨w.heap.size, m, none⟩) (some ⟨w.heap.size, 0, none⟩) (n - m) (n - m) m n (by (go_simp; done)) (by (go_simp; done)) w.heap.size m (List.replicate m (Value.int .i64 a) ++ Z.drop m) 3 HCC.out (List.replicate (Nat.min m (n - m)) (Value.int .i64 a)) HLEN.out (fun _ => ⟨rfl, _, rfl, HCL.out⟩) HFIT.out HONE.out w.heap.size w (HBD.out 1) (Nat.le_refl _) ?_; intro w4 hg4 hb4)
     have hc4 : slices_Repeat_int_int.Cells w.heap.size a Z (m + Nat.min m (n - m)) w4 := by
      unfold slices_Repeat_int_int.Cells
      rw [← slices_Repeat_int_int.splice_rep a Z m (Nat.min m (n - m)) (by rw [HZ.out]; omega)]
      exact hg4
     have hmn1 : 1 ≤ Nat.min m (n - m) := Nat.le_min.2 ⟨hm4, by omega⟩
     generalize hq : Nat.min m (n - m) = q at *
     clear hq hg4
     have hw1 := HW.out
     go_simp
     clear hw1
     go_roundw
     case rel =>
      (repeat apply Exists.intro)
      exact ⟨⟨m + q, by go_num, by omega, fun _ => by omega, hc4, hb4⟩, rfl⟩
     case measure => simp [intOf]; omega
    ·
     have hmn : m = n := by omega
     subst hmn
     go_wp2
     go_ret
     have own : wr.ownsRow w.heap.size 3 1 (.slice (some ⟨w.heap.size, 0, none⟩) m m) m (List.replicate m (Value.int .i64 a)) := ⟨by simp, .inr ⟨w.heap.size, m, _, rfl, Nat.le_refl _, hc, Nat.le_refl _, by unfold maxLen; omega, by simp [HZ.out], by simp⟩⟩
     refine ⟨_, rfl, Kd.R_of_own (enc := fun x : Int => Value.int .i64 x) ?_ (fun _ _ => trivial), hB⟩
     rw [List.length_replicate]
     simpa [encs] using own
theorem slices_Repeat_int_int.calls (A0 : Option Addr) (c0 : Nat) (l0 : List Int) (a1 : Int) (r : List Int) (w : World) (hr0 : Kd.C (Kd.int .i64) w A0 l0.length l0) (hc0 : l0.length ≤ c0) (h : slices_Repeat_int_int.f l0 a1 = some r) :
  Calls Try.prog 42 #[.slice A0 l0.length c0, .int .i64 a1] w fun e w' => ∃ v0_ : Value, e = .returned v0_ ∧ Kd.R (Kd.int .i64) 3 w' w.heap.size (fun _ => True) v0_ r ∧ Below w.heap.size w w' := by
 unfold slices_Repeat_int_int.f at h
 split at h
 ·
  rename_i hG
  obtain ⟨h1, h2, h3⟩ := hG
  injection h with h
  subst h
  obtain ⟨n, rfl⟩ := Int.eq_ofNat_of_zero_le h2
  match l0, h1 with
  | [a], _ => exact slices_Repeat_int_int.walk a n (by omega) A0 c0 w hr0 hc0
 ·
  cases h


end Go.Proofs.Ytjbgnlhgjgnclaa.PB

/- TreeSpots' pure statement: Spots, Cover and So of the program and of the reference are the same. Conditions: what is read fits into memory. -/
import Derived.Test.YtlgdipednnkmcaaPAx10
import Derived.Test.YtlgdipednnkmcaaTreeBoth
namespace Go.Proofs.Ytlgdipednnkmcaa.Pure
set_option linter.unusedVariables false
open Go.RowKit Go.Proofs.Ytlgdipednnkmcaa.PA Go.Proofs.YtlgdipednnkmcaaW.PrintWords Go.Proofs.YtlgdipednnkmcaaW.PrintLast Go.Proofs.YtlgdipednnkmcaaW.PrintMore Go.Proofs.YtlgdipednnkmcaaW.EvKit Go.Proofs.Ytlgdipednnkmcaa.TreeCheck

theorem same_from (l : List S29) (hl : l.length ≤ 11) : ∀ (d i : Nat), i + d = l.length → Ev (fun k => hushlaw9_sameSpots.l0 k l l (l.length : Int) (i : Int)) true := by
  intro d
  induction d with
  | zero => intro i hi; exact Ev.step (fun k => hushlaw9_sameSpots.l0.eq_2 _ _ _ _ k) (Ev.neg (by omega) (Ev.ret _))
  | succ d ih =>
    intro i hi
    have hw : wrap64 ((i : Int) + 1) = ((i + 1 : Nat) : Int) := by rw [wrap64_of (by omega) (by omega)]; omega
    refine Ev.step (fun k => hushlaw9_sameSpots.l0.eq_2 _ _ _ _ k) (Ev.pos (by omega) (Ev.pos (by omega) (Ev.pos (by omega) (Ev.pos (by omega) (Ev.neg (by simp) ?_)))))
    rw [hw]
    exact ih (i + 1) (by omega)
theorem same_spots (l : List S29) (hl : l.length ≤ 11) : Ev (fun k => hushlaw9_sameSpots.f k l l) true := Ev.pos rfl (same_from l hl l.length 0 (by omega))

/-- Is all of a list within what may be told? -/
def within (l : List Int) : Bool := l.all fun x => decide (x ≤ 1073741824) && decide (-1073741824 ≤ x)

theorem max_fold : ∀ (l : List Int) (m b : Int), l.foldl max m ≤ b ↔ m ≤ b ∧ ∀ x ∈ l, x ≤ b
  | [], m, b => by simp
  | x :: l, m, b => by
    rw [List.foldl_cons, max_fold l (max m x) b, Int.max_le]
    simp only [List.mem_cons, forall_eq_or_imp]
    exact and_assoc
theorem min_fold : ∀ (l : List Int) (m b : Int), b ≤ l.foldl min m ↔ b ≤ m ∧ ∀ x ∈ l, b ≤ x
  | [], m, b => by simp
  | x :: l, m, b => by
    rw [List.foldl_cons, min_fold l (min m x) b, Int.le_min]
    simp only [List.mem_cons, forall_eq_or_imp]
    exact and_assoc
theorem max_of (l : List Int) (b : Int) (h : l ≠ []) : Lib.maxOf l ≤ b ↔ ∀ x ∈ l, x ≤ b := by
  unfold Lib.maxOf
  rw [max_fold]
  cases l with
  | nil => exact absurd rfl h
  | cons x l => simp
theorem min_of (l : List Int) (b : Int) (h : l ≠ []) : b ≤ Lib.minOf l ↔ ∀ x ∈ l, b ≤ x := by
  unfold Lib.minOf
  rw [min_fold]
  cases l with
  | nil => exact absurd rfl h
  | cons x l => simp

theorem rd_get (l : List Int) (i : Nat) (x : Int) (rest : List Int) (h : l.drop i = x :: rest) : rd l (i : Int) = x := by
  unfold rd
  rw [Int.toNat_natCast]
  exact (getD_drop l _ i x rest h).1

/-- The reference looks at each number. -/
theorem so_l1 (told : List (List Int)) (n : Int) (l : List Int) (cover : List S29) (len i : Int) (lv at_ : Int) (hl : l.length ≤ 17592186044416) {r : Int × Int}
    (hbad : within l = false → r = (0, 8)) (hgood : within l = true → Ev (fun k => if 0 ≤ lv then (if lv < (l.length : Int) then (hushref9_So.l0 k told (wrap64 (n + (rd l lv))) cover len (wrap64 (i + 1))) else (none)) else (none)) r) :
    ∀ (rest : List Int) (j : Nat), l.drop j = rest → j + rest.length = l.length → within l = within rest → Ev (fun k => hushref9_So.l1 k told n l cover len i l (l.length : Int) (j : Int) lv at_) r := by
  intro rest
  induction rest with
  | nil =>
    intro j hd hj hw
    simp at hj
    refine Ev.step (fun k => hushref9_So.l1.eq_2 _ _ _ _ _ _ _ _ _ _ _ k) (Ev.neg (by omega) ?_)
    exact hgood (by rw [hw]; rfl)
  | cons x rest ih =>
    intro j hd hj hw
    simp only [List.length_cons] at hj
    have hx := rd_get l j x rest hd
    have hw1 : wrap64 ((j : Int) + 1) = ((j + 1 : Nat) : Int) := by rw [wrap64_of (by omega) (by omega)]; omega
    refine Ev.step (fun k => hushref9_So.l1.eq_2 _ _ _ _ _ _ _ _ _ _ _ k) (Ev.pos (by omega) (Ev.pos (by omega) (Ev.pos (by omega) ?_)))
    rw [hx, hw1]
    by_cases h1 : x > 1073741824
    · exact Ev.pos h1 (Ev.eq (Ev.ret _) (hbad (by rw [hw]; simp [within]; omega)).symm)
    · by_cases h2 : x < -1073741824
      · exact Ev.neg h1 (Ev.pos h2 (Ev.eq (Ev.ret _) (hbad (by rw [hw]; simp [within]; omega)).symm))
      · refine Ev.neg h1 (Ev.neg h2 (ih (j + 1) (getD_drop l 0 j x rest hd).2.2 (by omega) ?_))
        rw [hw]
        have a1 : x ≤ 1073741824 := by omega
        have a2 : -1073741824 ≤ x := by omega
        simp [within, a1, a2]

theorem shl_long : ∀ n : Fin 11, ∀ a : Fin 1025, shl .i64 (a.val : Int) (n.val : Int) = ((a.val * 2 ^ n.val : Nat) : Int) := by
  intro n a
  unfold shl
  have h1 : min ((n.val : Int).toNat) IntKind.i64.bits = n.val := by
    have : IntKind.i64.bits = 64 := rfl
    rw [this, Int.toNat_natCast]
    omega
  rw [h1]
  have h2 : 2 ^ n.val ≤ 2 ^ 10 := Nat.pow_le_pow_right (by decide) (by omega)
  have h3 : a.val * 2 ^ n.val ≤ 1024 * 1024 := Nat.mul_le_mul (by omega) h2
  have e : (a.val : Int) * 2 ^ n.val = ((a.val * 2 ^ n.val : Nat) : Int) := by simp
  rw [e, IntKind.wrap_i64]
  omega

theorem sub_one (P : Nat) (h1 : 1 ≤ P) (h2 : P ≤ 100000) : wrap64 ((P : Int) - 1) = ((P - 1 : Nat) : Int) := by rw [wrap64_of (by omega) (by omega)]; omega
theorem wrap_nat (P : Nat) (h2 : P ≤ 100000) : wrap64 (P : Int) = (P : Int) := wrap64_of (by omega) (by omega)

theorem bump (a : Nat) (h : a + 1 ≤ 1024) : wrap64 ((a : Int) + 1) = ((a + 1 : Nat) : Int) := by rw [wrap64_of (by omega) (by omega)]; omega
theorem lt_told {P E n : Nat} (h : (P : Int) ≤ (n : Int)) (hE : P - 1 = E) (h1 : 1 ≤ P) : E < n := by omega

theorem so_both (told : List (List Int)) (t : Int) (ht : t ≤ told.length) (htl : told.length ≤ 17592186044416) (hel : ∀ l ∈ told, l.length ≤ 17592186044416) (cover : List S29) (hc : cover.length ≤ 11) (t1 : t ≤ 1024) : ∀ (rest : List S29) (i : Nat) (n : Int),
    cover.drop i = rest → i + rest.length = cover.length → fits t rest = true →
    ∃ r, Ev (fun k => tree_So.l0 k told n cover (cover.length : Int) (i : Int)) r ∧ Ev (fun k => hushref9_So.l0 k told n cover (cover.length : Int) (i : Int)) r := by
  intro rest
  induction rest with
  | nil =>
    intro i n hd hi _
    simp at hi
    exact ⟨_, Ev.step (fun k => tree_So.l0.eq_2 _ _ _ _ _ k) (Ev.neg (by omega) (Ev.ret _)), Ev.step (fun k => hushref9_So.l0.eq_2 _ _ _ _ _ k) (Ev.neg (by omega) (Ev.ret _))⟩
  | cons s rest ih =>
    intro i n hd hi hf
    simp only [List.length_cons] at hi
    obtain ⟨e1, e2, e3⟩ := getD_drop cover z29 i _ _ hd
    have hs : rd_T29 cover (i : Int) = s := by unfold rd_T29; rw [Int.toNat_natCast]; exact e1
    have hw1 : wrap64 ((i : Int) + 1) = ((i + 1 : Nat) : Int) := by rw [wrap64_of (by omega) (by omega)]; omega
    have hf0 : (0 ≤ s.f0 ∧ s.f0 ≤ 10 ∧ 0 ≤ s.f1 ∧ (s.f1 + 1) * 2 ^ s.f0.toNat ≤ t) ∧ fits t rest = true := by
      unfold fits at hf ⊢
      rw [List.all_cons, Bool.and_eq_true] at hf
      refine ⟨?_, hf.2⟩
      simpa [and_assoc] using hf.1
    obtain ⟨⟨g1, g2, g3, g4⟩, hfr⟩ := hf0
    obtain ⟨lv, at_⟩ := s
    simp only at g1 g2 g3 g4
    obtain ⟨v, rfl⟩ : ∃ v : Nat, lv = v := ⟨lv.toNat, by omega⟩
    obtain ⟨a, rfl⟩ : ∃ a : Nat, at_ = a := ⟨at_.toNat, by omega⟩
    have hv : v < 11 := by omega
    rw [Int.toNat_natCast] at g4
    have hp : 1 ≤ 2 ^ v := Nat.one_le_two_pow
    obtain ⟨P, hP⟩ : ∃ P : Nat, P = (a + 1) * 2 ^ v := ⟨_, rfl⟩
    have g5 : ((P : Nat) : Int) ≤ t := by rw [hP]; simpa using g4
    have hPb : P ≤ 1024 := Int.ofNat_le.1 (Int.le_trans g5 t1)
    have ha : a + 1 ≤ P := by rw [hP]; exact Nat.le_mul_of_pos_right _ (by omega)
    have hsh := shl_long ⟨v, hv⟩ ⟨a + 1, Nat.lt_succ_of_le (Nat.le_trans ha hPb)⟩
    have w1 : wrap64 ((a : Int) + 1) = ((a + 1 : Nat) : Int) := bump a (Nat.le_trans ha hPb)
    have hsh' : shl .i64 ((a + 1 : Nat) : Int) (v : Int) = ((P : Nat) : Int) := by rw [hP]; exact hsh
    have w2 : wrap64 (((P : Nat) : Int) - 1) = ((P - 1 : Nat) : Int) := sub_one P (Nat.le_trans (Nat.le_add_left 1 a) ha) (Nat.le_trans hPb (by decide))
    have w3 : wrap64 (((a + 1 : Nat) : Int) * ((2 ^ v : Nat) : Int)) = ((P : Nat) : Int) := by
      rw [show ((a + 1 : Nat) : Int) * ((2 ^ v : Nat) : Int) = (((a + 1) * 2 ^ v : Nat) : Int) from (Int.natCast_mul (a + 1) (2 ^ v)).symm, ← hP]
      exact wrap_nat P (Nat.le_trans hPb (by decide))
    clear hsh hp g4 hP
    generalize hE : P - 1 = E at w2
    have hEt : E < told.length := lt_told (Int.le_trans g5 ht) hE (Nat.le_trans (Nat.le_add_left 1 a) ha)
    have hL : rd_L2 told (E : Int) ∈ told := by
      unfold rd_L2
      rw [Int.toNat_natCast, List.getD_eq_getElem?_getD, List.getElem?_eq_getElem hEt]
      exact List.getElem_mem _
    generalize hl : rd_L2 told (E : Int) = l at hL
    have hll := hel l hL
    have open1 : ∀ {r}, Ev (fun k => if (v : Int) ≥ (l.length : Int) then (some (0, 8)) else ((slices_Max_int_int.f l).bind fun t137 => (if t137 > 1073741824 then (some (0, 8)) else ((slices_Min_int_int.f l).bind fun t138 => (if t138 < (-1073741824) then (some (0, 8)) else (if (v : Int) < (l.length : Int) then (tree_So.l0 k told (wrap64 (n + (rd l (v : Int)))) cover (cover.length : Int) ((i + 1 : Nat) : Int)) else (none))))))) r →
        Ev (fun k => tree_So.l0 k told n cover (cover.length : Int) (i : Int)) r := by
      intro r h
      refine Ev.step (fun k => tree_So.l0.eq_2 _ _ _ _ _ k) (Ev.pos (by omega) (Ev.pos (by omega) (Ev.pos (by omega) ?_)))
      simp only [hs, w1, hsh', w2, hl, hw1]
      exact Ev.pos (by omega) (Ev.pos (by omega) (Ev.pos (by omega) h))
    have open2 : ∀ {r}, Ev (fun k => if (v : Int) ≥ (l.length : Int) then (some (0, 8)) else (hushref9_So.l1 k told n l cover (cover.length : Int) (i : Int) l (l.length : Int) 0 (v : Int) (a : Int))) r →
        Ev (fun k => hushref9_So.l0 k told n cover (cover.length : Int) (i : Int)) r := by
      intro r h
      refine Ev.step (fun k => hushref9_So.l0.eq_2 _ _ _ _ _ k) (Ev.pos (by omega) (Ev.pos (by omega) (Ev.pos (by omega) ?_)))
      simp only [hs]
      refine Ev.bind (long_ev v hv) ?_
      simp only [w1, w3, w2, hl]
      exact Ev.pos (by omega) (Ev.pos (by omega) h)
    by_cases hge : (v : Int) ≥ (l.length : Int)
    · exact ⟨(0, 8), open1 (Ev.pos hge (Ev.ret _)), open2 (Ev.pos hge (Ev.ret _))⟩
    · have hne : l ≠ [] := by
        rintro rfl
        simp at hge
      have hlen : ¬ l.length = 0 := fun h => hne (List.eq_nil_of_length_eq_zero h)
      have hmax : slices_Max_int_int.f l = some (Lib.maxOf l) := by unfold slices_Max_int_int.f; rw [if_neg hlen]
      have hmin : slices_Min_int_int.f l = some (Lib.minOf l) := by unfold slices_Min_int_int.f; rw [if_neg hlen]
      cases hwi : within l with
      | false =>
        refine ⟨(0, 8), open1 (Ev.neg hge (Ev.bind (Ev.const hmax) ?_)), open2 (Ev.neg hge (so_l1 told n l cover _ _ _ _ hll (fun _ => rfl) (fun h => by rw [hwi] at h; cases h) l 0 rfl (by simp) rfl))⟩
        by_cases c1 : Lib.maxOf l > 1073741824
        · exact Ev.pos c1 (Ev.ret _)
        · refine Ev.neg c1 (Ev.bind (Ev.const hmin) ?_)
          by_cases c2 : Lib.minOf l < -1073741824
          · exact Ev.pos c2 (Ev.ret _)
          · exfalso
            have k1 := (max_of l 1073741824 hne).1 (by omega)
            have k2 := (min_of l (-1073741824) hne).1 (by omega)
            have : within l = true := by
              unfold within
              rw [List.all_eq_true]
              intro x hx
              have := k1 x hx
              have := k2 x hx
              simp
              omega
            rw [hwi] at this
            cases this
      | true =>
        have hall : ∀ x ∈ l, x ≤ 1073741824 ∧ -1073741824 ≤ x := by
          intro x hx
          have := List.all_eq_true.1 hwi x hx
          simpa using this
        obtain ⟨r, hA, hB⟩ := ih (i + 1) (wrap64 (n + rd l (v : Int))) e3 (by omega) hfr
        have k1 := (max_of l 1073741824 hne).2 (fun x hx => (hall x hx).1)
        have k2 := (min_of l (-1073741824) hne).2 (fun x hx => (hall x hx).2)
        refine ⟨r, open1 (Ev.neg hge (Ev.bind (Ev.const hmax) (Ev.neg (by omega) (Ev.bind (Ev.const hmin) (Ev.neg (by omega) (Ev.pos (by omega) hA)))))), open2 (Ev.neg hge (so_l1 told n l cover _ _ _ _ hll (fun h => by rw [hwi] at h; cases h) (fun _ => Ev.pos (by omega) (Ev.pos (by omega) ?_)) l 0 rfl (by simp) rfl))⟩
        rw [hw1]
        exact hB

theorem TreeSpots : hushlaw9_TreeSpots.Pure := by
  intro h t told _ _ ht
  obtain ⟨htl1, htl, hel⟩ := ht
  obtain ⟨sp, e1, sA, sB, sl⟩ := spots_both h t
  obtain ⟨cv, e2, cA, cB, cl, cf, ce⟩ := cover_both h t
  refine Ev.rounds (Ev.bind sA (Ev.bind sB (Ev.bind (same_spots sp sl) (Ev.pos rfl ?_))))
  have hne : ∀ e : Int, (e != e) = false := fun e => by simp
  dsimp only
  rw [hne]
  refine Ev.step (fun k => hushlaw9_TreeSpots.j0.eq_2 _ _ _ _ k) (Ev.neg (by simp) (Ev.bind cA (Ev.bind cB (Ev.bind (same_spots cv cl) (Ev.pos rfl ?_)))))
  dsimp only
  rw [hne]
  refine Ev.step (fun k => hushlaw9_TreeSpots.j1.eq_2 _ _ _ _ k) (Ev.neg (by simp) ?_)
  have hso : ∃ r, Ev (fun k => tree_So.f k h told t) r ∧ Ev (fun k => hushref9_So.f k h told t) r := by
    rcases ce with rfl | rfl
    · by_cases hlt : (told.length : Int) < t
      · exact ⟨(0, 8), Ev.bind cA (Ev.pos rfl (Ev.pos hlt (Ev.ret _))), Ev.bind cB (Ev.pos rfl (Ev.pos hlt (Ev.ret _)))⟩
      · obtain ⟨r, hA, hB⟩ := so_both told t (by omega) (by omega) (fun l hl => by have := (hel l hl).2.1; omega) cv cl (cf rfl).2 cv 0 0 rfl (by simp) (cf rfl).1
        exact ⟨r, Ev.bind cA (Ev.pos rfl (Ev.neg hlt hA)), Ev.bind cB (Ev.pos rfl (Ev.neg (by omega) hB))⟩
    · exact ⟨(0, 3), Ev.bind cA (Ev.neg (by simp) (Ev.ret _)), Ev.bind cB (Ev.neg (by simp) (Ev.ret _))⟩
  obtain ⟨r, hA, hB⟩ := hso
  exact Ev.bind hA (Ev.bind hB (Ev.pos rfl (Ev.eq (Ev.ret _) (by simp))))
end Go.Proofs.Ytlgdipednnkmcaa.Pure

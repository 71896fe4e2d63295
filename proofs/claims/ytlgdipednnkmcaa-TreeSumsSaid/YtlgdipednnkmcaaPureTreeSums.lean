/- TreeSums' pure statement: of each whole node its true count is told: So tells what has come. Conditions: what is read fits into memory. -/
import Derived.Test.YtlgdipednnkmcaaPAx6
import Derived.Test.YtlgdipednnkmcaaTreeChain
namespace Go.Proofs.Ytlgdipednnkmcaa.Pure
set_option linter.unusedVariables false
open Go.RowKit Go.Proofs.Ytlgdipednnkmcaa.PA Go.Proofs.YtlgdipednnkmcaaW.PrintWords Go.Proofs.YtlgdipednnkmcaaW.PrintLast Go.Proofs.YtlgdipednnkmcaaW.PrintMore Go.Proofs.YtlgdipednnkmcaaW.EvKit Go.Proofs.Ytlgdipednnkmcaa.TreeCheck

/-- What has come ahead of a step. -/
def pre (l : List Int) (i : Nat) : Int := (l.take i).sum
theorem pre_succ (l : List Int) (i : Nat) (x : Int) (rest : List Int) (h : l.drop i = x :: rest) : pre l (i + 1) = pre l i + x := by
  have hl := (getD_drop l 0 i x rest h).2.1
  rw [List.drop_eq_getElem_cons hl] at h
  injection h with h1 h2
  unfold pre
  rw [List.take_succ_eq_append_getElem hl, List.sum_append, h1]
  simp
def Small (l : List Int) : Prop := ∀ x ∈ l, 0 ≤ x ∧ x ≤ 1000
theorem sum_small : ∀ l : List Int, Small l → 0 ≤ l.sum ∧ l.sum ≤ 1000 * l.length
  | [], _ => by simp
  | x :: l, h => by
    have h0 := h x (by simp)
    have h1 := sum_small l (fun y hy => h y (by simp [hy]))
    simp only [List.sum_cons, List.length_cons]
    omega
theorem pre_small (l : List Int) (h : Small l) (i : Nat) : 0 ≤ pre l i ∧ pre l i ≤ 1000 * l.length := by
  have h1 := sum_small (l.take i) (fun x hx => h x (List.mem_of_mem_take hx))
  have h2 : (l.take i).length ≤ l.length := by rw [List.length_take]; omega
  unfold pre
  omega
theorem take_drop_sum (l : List Int) (a b : Nat) : ((l.take b).drop a).sum = if a ≤ b then pre l b - pre l a else 0 := by
  split
  · rename_i h
    have e : (l.take b) = (l.take a) ++ ((l.take b).drop a) := by
      conv => lhs; rw [← List.take_append_drop a (l.take b)]
      rw [List.take_take, Nat.min_eq_left h]
    unfold pre
    conv => rhs; rw [e]
    rw [List.sum_append]
    omega
  · rw [List.drop_eq_nil_of_le]
    · rfl
    · rw [List.length_take]; omega
theorem pre_mono (l : List Int) (h : Small l) (a b : Nat) (hab : a ≤ b) : 0 ≤ pre l b - pre l a ∧ pre l b - pre l a ≤ 1000 * l.length := by
  have h1 := sum_small ((l.take b).drop a) (fun x hx => h x (List.mem_of_mem_take (List.mem_of_mem_drop hx)))
  rw [take_drop_sum, if_pos hab] at h1
  have h2 := pre_small l h a
  have h3 := pre_small l h b
  omega

/-- What is told at a step. -/
structure Told (l : List Int) (high t : Nat) (lst : List Int) : Prop where
  at_ : ∀ v, v ≤ high → 2 ^ v ∣ t → lst[v]? = some (pre l t - pre l (t - 2 ^ v))
  small : ∀ x ∈ lst, 0 ≤ x ∧ x ≤ 1000 * l.length

/-- The sums so far. -/
def sums (l : List Int) (i : Nat) : List Int := (List.range (i + 1)).map (pre l)
theorem sums_length (l : List Int) (i : Nat) : (sums l i).length = i + 1 := by simp [sums]
theorem sums_rd (l : List Int) (i j : Nat) (h : j ≤ i) : rd (sums l i) (j : Int) = pre l j := by
  unfold rd sums
  rw [Int.toNat_natCast, List.getD_eq_getElem?_getD, List.getElem?_map, List.getElem?_range (by omega)]
  rfl
theorem sums_succ (l : List Int) (i : Nat) : sums l (i + 1) = sums l i ++ [pre l (i + 1)] := by
  unfold sums
  rw [List.range_succ, List.map_append]
  rfl

theorem sums_l2 (l : List Int) (hs : Small l) (hl : l.length ≤ 1024) (high : Nat) (hh : high ≤ 10) (time : Int) (told : List (List Int)) (htold : told.length ≤ 1024) (t : Nat) (ht : 1 ≤ t) (ht' : t ≤ l.length) {r : Bool}
    (hn : ∀ lst, Told l high t lst → Ev (fun k => hushlaw9_TreeSums.l1 k (high : Int) l time (sums l l.length) (told ++ [lst]) ((t + 1 : Nat) : Int)) r) :
    ∀ (d v : Nat) (lst : List Int), v + d = high + 1 → lst.length = v → (∀ j, j < v → 2 ^ j ∣ t → lst[j]? = some (pre l t - pre l (t - 2 ^ j))) → (∀ x ∈ lst, 0 ≤ x ∧ x ≤ 1000 * l.length) →
      Ev (fun k => hushlaw9_TreeSums.l2 k (high : Int) l time (sums l l.length) told (t : Int) lst (v : Int)) r := by
  have hw : wrap64 ((t : Int) + 1) = ((t + 1 : Nat) : Int) := by rw [wrap64_of (by omega) (by omega)]; omega
  intro d
  induction d with
  | zero =>
    intro v lst hv hlen h1 h2
    refine Ev.step (fun k => hushlaw9_TreeSums.l2.eq_2 _ _ _ _ _ _ _ _ k) (Ev.neg (by omega) (Ev.pos (by omega) ?_))
    rw [hw]
    exact hn lst ⟨fun w hw' hd => h1 w (by omega) hd, h2⟩
  | succ d ih =>
    intro v lst hv hlen h1 h2
    have hlong := long_ev v (by omega)
    have hp : 1 ≤ 2 ^ v := Nat.one_le_two_pow
    have hw1 : wrap64 ((v : Int) + 1) = ((v + 1 : Nat) : Int) := by rw [wrap64_of (by omega) (by omega)]; omega
    obtain ⟨P, hP⟩ : ∃ P, P = 2 ^ v := ⟨_, rfl⟩
    rw [← hP] at hlong hp
    have hm : Int.tmod (t : Int) (P : Int) = ((t % P : Nat) : Int) := by rw [Int.tmod_eq_emod_of_nonneg (by omega)]; rfl
    refine Ev.step (fun k => hushlaw9_TreeSums.l2.eq_2 _ _ _ _ _ _ _ _ k) (Ev.pos (by omega) (Ev.bind hlong (Ev.neg (by omega) ?_)))
    rw [hm, hw, hw1]
    by_cases hd : t % P = 0
    · have hle : P ≤ t := Nat.le_of_dvd (by omega) (Nat.dvd_of_mod_eq_zero hd)
      have hw2 : wrap64 ((t : Int) - (P : Int)) = ((t - P : Nat) : Int) := by rw [wrap64_of (by omega) (by omega)]; omega
      have hsl := sums_length l l.length
      have hb := pre_mono l hs (t - P) t (by omega)
      refine Ev.pos (by omega) (Ev.pos (by omega) (Ev.pos (by omega) (Ev.bind hlong ?_)))
      rw [hw2, sums_rd l _ t ht', sums_rd l _ (t - P) (by omega), wrap64_of (x := pre l t - pre l (t - P)) (by omega) (by omega)]
      refine Ev.pos (by omega) (Ev.pos (by omega) (Ev.pos (by omega) (ih (v + 1) _ (by omega) (by simp [hlen]) ?_ ?_)))
      · intro j hj hdj
        rcases Nat.lt_or_ge j v with hjv | hjv
        · rw [List.getElem?_append_left (by omega)]
          exact h1 j hjv hdj
        · have : j = v := by omega
          subst this
          rw [List.getElem?_append_right (by omega), hlen, ← hP]
          simp
      · intro x hx
        rcases List.mem_append.1 hx with hx | hx
        · exact h2 x hx
        · rw [List.mem_singleton.1 hx]; exact hb
    · refine Ev.neg (by omega) (Ev.pos (by omega) (hn lst ⟨fun w hw' hdw => ?_, h2⟩))
      rcases Nat.lt_or_ge w v with hwv | hwv
      · exact h1 w hwv hdw
      · exfalso
        have hdv : 2 ^ v ∣ t := Nat.dvd_trans (Nat.pow_dvd_pow 2 hwv) hdw
        rw [← hP] at hdv
        exact hd (Nat.mod_eq_zero_of_dvd hdv)

theorem within_max (l : List Int) (h : ∀ x ∈ l, 0 ≤ x ∧ x ≤ 1024000) (hne : l ≠ []) : (0 ≤ Lib.maxOf l ∧ Lib.maxOf l ≤ 1024000) ∧ (0 ≤ Lib.minOf l ∧ Lib.minOf l ≤ 1024000) := by
  have key : ∀ (f : Int → Int → Int), (∀ a b, f a b = a ∨ f a b = b) → ∀ (l : List Int) (m : Int), (0 ≤ m ∧ m ≤ 1024000) → (∀ x ∈ l, 0 ≤ x ∧ x ≤ 1024000) → 0 ≤ l.foldl f m ∧ l.foldl f m ≤ 1024000 := by
    intro f hf l
    induction l with
    | nil => intro m hm _; exact hm
    | cons x l ih =>
      intro m hm hx
      rw [List.foldl_cons]
      refine ih _ ?_ (fun y hy => hx y (by simp [hy]))
      rcases hf m x with h | h <;> rw [h]
      · exact hm
      · exact hx x (by simp)
  cases l with
  | nil => exact absurd rfl hne
  | cons x l =>
    have h0 := h x (by simp)
    exact ⟨key max (fun a b => by omega) (x :: l) x h0 h, key min (fun a b => by omega) (x :: l) x h0 h⟩

theorem shl_long : ∀ n : Fin 11, ∀ a : Fin 1025, shl .i64 (a.val : Int) (n.val : Int) = ((a.val * 2 ^ n.val : Nat) : Int) := by
  intro n a
  unfold shl
  have h1 : min ((n.val : Int).toNat) IntKind.i64.bits = n.val := by
    have : IntKind.i64.bits = 64 := rfl
    rw [this, Int.toNat_natCast]
    omega
  rw [h1]
  have h2 : 2 ^ n.val ≤ 2 ^ 10 := Nat.pow_le_pow_right (by decide) (by omega)
  have h3 : a.val * 2 ^ n.val ≤ 1024 * 1024 := Nat.mul_le_mul (by omega) h2
  have e : (a.val : Int) * 2 ^ n.val = ((a.val * 2 ^ n.val : Nat) : Int) := by simp
  rw [e, IntKind.wrap_i64]
  omega
theorem sub_one (P : Nat) (h1 : 1 ≤ P) (h2 : P ≤ 100000) : wrap64 ((P : Int) - 1) = ((P - 1 : Nat) : Int) := by rw [wrap64_of (by omega) (by omega)]; omega
theorem bump (a : Nat) (h : a + 1 ≤ 1024) : wrap64 ((a : Int) + 1) = ((a + 1 : Nat) : Int) := by rw [wrap64_of (by omega) (by omega)]; omega

theorem chain_le (n : Nat) : ∀ (l : List S29) (at_ t : Nat), chain n l at_ t = true → at_ ≤ t
  | [], at_, t, h => by simp [chain] at h; omega
  | s :: l, at_, t, h => by
    simp only [chain, Bool.and_eq_true] at h
    exact Nat.le_trans (Nat.le_add_right _ _) (chain_le n l _ t h.2)

theorem so_sum (l : List Int) (hs : Small l) (hl : l.length ≤ 1024) (high : Nat) (hh : high ≤ 10) (told : List (List Int)) (hlen : told.length = l.length) (ht : ∀ i lst, told[i]? = some lst → Told l high (i + 1) lst) (cover : List S29) (hc : cover.length ≤ 11) (time : Nat) (htime : time ≤ l.length) :
    ∀ (rest : List S29) (i at_ : Nat), cover.drop i = rest → i + rest.length = cover.length → chain high rest at_ time = true →
    Ev (fun k => tree_So.l0 k told (pre l at_) cover (cover.length : Int) (i : Int)) (pre l time, 0) := by
  intro rest
  induction rest with
  | nil =>
    intro i at_ hd hi hch
    simp at hi
    simp [chain] at hch
    subst hch
    exact Ev.step (fun k => tree_So.l0.eq_2 _ _ _ _ _ k) (Ev.neg (by omega) (Ev.ret _))
  | cons s rest ih =>
    intro i at_ hd hi hch
    simp only [List.length_cons] at hi
    obtain ⟨e1, e2, e3⟩ := getD_drop cover z29 i _ _ hd
    have hrs : rd_T29 cover (i : Int) = s := by unfold rd_T29; rw [Int.toNat_natCast]; exact e1
    have hw1 : wrap64 ((i : Int) + 1) = ((i + 1 : Nat) : Int) := by rw [wrap64_of (by omega) (by omega)]; omega
    simp only [chain, Bool.and_eq_true, decide_eq_true_eq, beq_iff_eq] at hch
    obtain ⟨⟨⟨⟨g1, g2⟩, g3⟩, g4⟩, hch⟩ := hch
    have hle := chain_le _ _ _ _ hch
    obtain ⟨lv, a0⟩ := s
    simp only at g1 g2 g3 g4 hch hle
    obtain ⟨v, rfl⟩ : ∃ v : Nat, lv = v := ⟨lv.toNat, by omega⟩
    obtain ⟨a, rfl⟩ : ∃ a : Nat, a0 = a := ⟨a0.toNat, by omega⟩
    rw [Int.toNat_natCast] at g3 hch hle
    have hv : v < 11 := by omega
    have hvh : v ≤ high := by omega
    have g5 : a * 2 ^ v = at_ := by exact_mod_cast g3
    have g6 : (a + 1) * 2 ^ v = at_ + 2 ^ v := by rw [Nat.add_mul, g5, Nat.one_mul]
    have hp : 1 ≤ 2 ^ v := Nat.one_le_two_pow
    have ha : a + 1 ≤ (a + 1) * 2 ^ v := Nat.le_mul_of_pos_right _ hp
    rw [g6] at ha
    have hdvd : 2 ^ v ∣ at_ + 2 ^ v := ⟨a + 1, by rw [← g6, Nat.mul_comm]⟩
    obtain ⟨P, hP⟩ : ∃ P, P = 2 ^ v := ⟨_, rfl⟩
    have hTold := fun lst (h : told[at_ + P - 1]? = some lst) => (ht (at_ + P - 1) lst h)
    rw [← hP] at hle ha hch hp g6
    have hge : at_ + P - 1 < told.length := by rw [hlen]; omega
    have hTl := hTold _ (List.getElem?_eq_getElem hge)
    rw [show at_ + P - 1 + 1 = at_ + P by omega] at hTl
    have hval := hTl.at_ v hvh (by rw [← hP]; rw [← hP] at hdvd; exact hdvd)
    rw [← hP, show at_ + P - P = at_ by omega] at hval
    have hlst : rd_L2 told ((at_ + P - 1 : Nat) : Int) = told[at_ + P - 1] := by
      unfold rd_L2
      rw [Int.toNat_natCast, List.getD_eq_getElem?_getD, List.getElem?_eq_getElem hge]; rfl
    generalize told[at_ + P - 1] = lst at hTl hval hlst
    have hvl : v < lst.length := (List.getElem?_eq_some_iff.1 hval).1
    have hne : lst ≠ [] := by rintro rfl; simp at hvl
    have hsm := within_max lst (fun x hx => by have := hTl.small x hx; omega) hne
    have hlen0 : ¬ lst.length = 0 := by omega
    have hmax : slices_Max_int_int.f lst = some (Lib.maxOf lst) := by unfold slices_Max_int_int.f; rw [if_neg hlen0]
    have hmin : slices_Min_int_int.f lst = some (Lib.minOf lst) := by unfold slices_Min_int_int.f; rw [if_neg hlen0]
    have hsh := shl_long ⟨v, hv⟩ ⟨a + 1, Nat.lt_succ_of_le (Nat.le_trans ha (Nat.le_trans hle (Nat.le_trans htime hl)))⟩
    have hsh' : shl .i64 ((a + 1 : Nat) : Int) (v : Int) = ((at_ + P : Nat) : Int) := by
      have h := hsh
      simp only at h
      rw [h, ← hP, g6]
    clear hsh hdvd g3 g5 g6
    clear hP
    have w1 := bump a (by omega)
    have w2 := sub_one (at_ + P) (by omega) (by omega)
    have hrd : rd lst (v : Int) = pre l (at_ + P) - pre l at_ := by
      unfold rd
      rw [Int.toNat_natCast, List.getD_eq_getElem?_getD, hval]; rfl
    have hb1 := pre_small l hs (at_ + P)
    have w3 : wrap64 (pre l at_ + (pre l (at_ + P) - pre l at_)) = pre l (at_ + P) := by rw [wrap64_of (by omega) (by omega)]; omega
    refine Ev.step (fun k => tree_So.l0.eq_2 _ _ _ _ _ k) (Ev.pos (by omega) (Ev.pos (by omega) (Ev.pos (by omega) ?_)))
    simp only [hrs, w1, hsh', w2, hlst, hw1, hrd, w3]
    refine Ev.pos (by omega) (Ev.pos (by omega) (Ev.pos (by omega) (Ev.neg (by omega) (Ev.bind (Ev.const hmax) (Ev.neg (by omega) (Ev.bind (Ev.const hmin) (Ev.neg (by omega) (Ev.pos (by omega) ?_))))))))
    exact ih (i + 1) (at_ + P) e3 (by omega) hch

theorem sums_l1 (l : List Int) (hs : Small l) (high : Nat) (hh : high ≤ 10) (hl : l.length ≤ 1024) (hl2 : l.length < 2 ^ high + 1) (time : Nat) (htime : time ≤ l.length) : ∀ (d t : Nat) (told : List (List Int)), t + d = l.length + 1 → 1 ≤ t → told.length = t - 1 → (∀ i lst, told[i]? = some lst → Told l high (i + 1) lst) →
    Ev (fun k => hushlaw9_TreeSums.l1 k (high : Int) l (time : Int) (sums l l.length) told (t : Int)) true := by
  intro d
  induction d with
  | zero =>
    intro t told ht h1 hlen htold
    obtain ⟨cv, hcv, hch, hcl⟩ := cover_chain high (by omega) time (by omega)
    refine Ev.step (fun k => hushlaw9_TreeSums.l1.eq_2 _ _ _ _ _ _ k) (Ev.neg (by omega) ?_)
    have hso : Ev (fun k => tree_So.f k (high : Int) told (time : Int)) (pre l time, 0) :=
      Ev.bind hcv (Ev.pos rfl (Ev.neg (by omega) (so_sum l hs hl high hh told (by omega) htold cv hcl time htime cv 0 0 rfl (by simp) hch)))
    have hsl := sums_length l l.length
    refine Ev.bind hso (Ev.pos rfl (Ev.pos (by omega) (Ev.pos (by omega) (Ev.eq (Ev.ret _) ?_))))
    rw [sums_rd l _ time htime]
    simp
  | succ d ih =>
    intro t told ht h1 hlen htold
    refine Ev.step (fun k => hushlaw9_TreeSums.l1.eq_2 _ _ _ _ _ _ k) (Ev.pos (by omega) ?_)
    refine sums_l2 l hs hl high hh time told (by omega) t h1 (by omega) (fun lst hT => ?_) (high + 1) 0 [] (by omega) rfl (by simp) (by simp)
    refine ih (t + 1) (told ++ [lst]) (by omega) (by omega) (by simp; omega) (fun i x hx => ?_)
    rcases Nat.lt_or_ge i told.length with hi | hi
    · rw [List.getElem?_append_left hi] at hx
      exact htold i x hx
    · rw [List.getElem?_append_right hi] at hx
      have h0 : i - told.length = 0 := by
        have := (List.getElem?_eq_some_iff.1 hx).1
        simp at this
        omega
      rw [h0] at hx
      simp at hx
      subst hx
      rw [show i + 1 = t by omega]
      exact hT

theorem sums_l0 (l : List Int) (high : Nat) (hh : high ≤ 10) (hl : l.length ≤ 1024) (hl2 : l.length < 2 ^ high + 1) (time : Nat) (htime : time ≤ l.length) : ∀ (rest : List Int) (i : Nat), l.drop i = rest → i + rest.length = l.length → (∀ x ∈ l.take i, 0 ≤ x ∧ x ≤ 1000) →
    Ev (fun k => hushlaw9_TreeSums.l0 k (high : Int) l (time : Int) (sums l i) l (l.length : Int) (i : Int)) true := by
  intro rest
  induction rest with
  | nil =>
    intro i hd hi hs
    simp at hi
    refine Ev.step (fun k => hushlaw9_TreeSums.l0.eq_2 _ _ _ _ _ _ _ k) (Ev.neg (by omega) ?_)
    subst hi
    rw [List.take_length] at hs
    exact sums_l1 l hs high hh hl hl2 time htime l.length 1 [] (by omega) (by omega) (by simp) (by simp)
  | cons x rest ih =>
    intro i hd hi hs
    simp only [List.length_cons] at hi
    obtain ⟨e1, e2, e3⟩ := getD_drop l 0 i x rest hd
    have hrd : rd l (i : Int) = x := by unfold rd; rw [Int.toNat_natCast]; exact e1
    have hw1 : wrap64 ((i : Int) + 1) = ((i + 1 : Nat) : Int) := by rw [wrap64_of (by omega) (by omega)]; omega
    have hsl := sums_length l i
    refine Ev.step (fun k => hushlaw9_TreeSums.l0.eq_2 _ _ _ _ _ _ _ k) (Ev.pos (by omega) (Ev.pos (by omega) (Ev.pos (by omega) ?_)))
    rw [hrd, hw1]
    by_cases h0 : x < 0
    · exact Ev.pos h0 (Ev.ret _)
    · refine Ev.neg h0 ?_
      by_cases h1 : x > 1000
      · exact Ev.pos h1 (Ev.ret _)
      · have hw2 : wrap64 (((sums l i).length : Int) - 1) = (i : Int) := by rw [hsl, wrap64_of (by omega) (by omega)]; omega
        have hb : 0 ≤ pre l i ∧ pre l i ≤ 1000 * (l.take i).length := sum_small _ hs
        have hb2 : (l.take i).length ≤ l.length := by rw [List.length_take]; omega
        have hps := pre_succ l i x rest hd
        rw [hw2, sums_rd l i i (Nat.le_refl _), wrap64_of (x := pre l i + x) (by omega) (by omega), ← hps, ← sums_succ]
        refine Ev.neg h1 (Ev.pos (by omega) (Ev.pos (by omega) (Ev.pos (by omega) (ih (i + 1) e3 (by omega) ?_))))
        intro y hy
        rw [List.take_succ_eq_append_getElem e2] at hy
        rcases List.mem_append.1 hy with hy | hy
        · exact hs y hy
        · rw [List.mem_singleton.1 hy]
          have : l[i] = x := by
            rw [List.drop_eq_getElem_cons e2] at hd
            injection hd
          omega

theorem alive_ev : Ev (fun k => hushlaw9_alive.f k) true := Ev.of hushlaw9_alive.mono (k := 40) (by decide +kernel)

theorem TreeSums : hushlaw9_TreeSums.Pure := by
  intro h l t _ _ _
  have out : ∀ {b : Bool}, b = true → Ev (fun k => hushlaw9_TreeSums.j0 k h l t b) true := fun hb => Ev.step (fun k => hushlaw9_TreeSums.j0.eq_2 _ _ _ _ k) (Ev.pos hb (Ev.ret _))
  refine Ev.rounds (Ev.bind alive_ev (Ev.pos rfl ?_))
  by_cases h0 : h < 0
  · exact Ev.pos h0 (out rfl)
  · by_cases h1 : h > 10
    · exact Ev.neg h0 (Ev.pos h1 (out rfl))
    · obtain ⟨n, rfl⟩ : ∃ n : Nat, h = n := ⟨h.toNat, by omega⟩
      refine Ev.neg h0 (Ev.neg h1 (Ev.bind (long_ev n (by omega)) ?_))
      by_cases h2 : (l.length : Int) > ((2 ^ n : Nat) : Int)
      · exact Ev.pos h2 (out rfl)
      · refine Ev.neg h2 ?_
        by_cases h3 : t < 0
        · exact Ev.pos h3 (out rfl)
        · refine Ev.neg h3 ?_
          by_cases h4 : t > (l.length : Int)
          · exact out (decide_eq_true h4)
          · obtain ⟨m, rfl⟩ : ∃ m : Nat, t = m := ⟨t.toNat, by omega⟩
            have hp : 2 ^ n ≤ 2 ^ 10 := Nat.pow_le_pow_right (by decide) (by omega)
            have hl2 : l.length < 2 ^ n + 1 := by omega
            have hl1 : l.length ≤ 1024 := Nat.le_trans (Nat.le_of_lt_succ hl2) hp
            refine Ev.step (fun k => hushlaw9_TreeSums.j0.eq_2 _ _ _ _ k) (Ev.neg (by simp; omega) ?_)
            have e : ([0] : List Int) = sums l 0 := rfl
            rw [e]
            exact sums_l0 l n (by omega) hl1 hl2 m (by omega) l 0 rfl (by simp) (by simp)
end Go.Proofs.Ytlgdipednnkmcaa.Pure

/- What is shared is a matrix, the same both ways; sums over squares. Conditions stand in each theorem. -/
import Derived.Test.YtjehjjpejmdfiaaMaskSum
import Derived.Test.YtjehjjpejmdfiaaFAx2
import Derived.Test.YtjehjjpejmdfiaaFAx3
namespace Go.Proofs.Ytjehjjpejmdfiaa.Pure
set_option linter.unusedVariables false
set_option linter.unusedSimpArgs false
open Go.RowKit Go.Proofs.Ytjehjjpejmdfiaa.PA Go.Proofs.YtjehjjpejmdfiaaW.PrintWords Go.Proofs.YtjehjjpejmdfiaaW.PrintLast Go.Proofs.YtjehjjpejmdfiaaW.PrintMore Go.Proofs.YtjehjjpejmdfiaaW.EvKit

/-- The sum of d values from j on. -/
def sm (f : Nat → Int) : Nat → Nat → Int
  | 0, _ => 0
  | d + 1, j => f j + sm f d (j + 1)
theorem sm_congr {f g : Nat → Int} (d : Nat) : ∀ j, (∀ k, j ≤ k → k < j + d → f k = g k) → sm f d j = sm g d j := by
  induction d with
  | zero => intro j _; rfl
  | succ d ih => intro j h; rw [sm, sm, h j (by omega) (by omega), ih (j + 1) (fun k h1 h2 => h k (by omega) (by omega))]
theorem sm_add (f g : Nat → Int) (d : Nat) : ∀ j, sm f d j + sm g d j = sm (fun k => f k + g k) d j := by
  induction d with
  | zero => intro j; rfl
  | succ d ih => intro j; rw [sm, sm, sm, ← ih (j + 1)]; omega
theorem sm_neg (f : Nat → Int) (d : Nat) : ∀ j, sm (fun k => - f k) d j = - sm f d j := by
  induction d with
  | zero => intro j; rfl
  | succ d ih => intro j; rw [sm, sm, ih (j + 1)]; omega
theorem sm_mul (m : Int) (f : Nat → Int) (d : Nat) : ∀ j, sm (fun k => m * f k) d j = m * sm f d j := by
  induction d with
  | zero => intro j; simp [sm]
  | succ d ih => intro j; rw [sm, sm, ih (j + 1), Int.mul_add]
theorem sm_zero (d : Nat) : ∀ j, sm (fun _ => 0) d j = 0 := by
  induction d with
  | zero => intro j; rfl
  | succ d ih => intro j; rw [sm, ih (j + 1)]; rfl
theorem sm_swap (a : Nat → Nat → Int) (e j' : Nat) (d : Nat) : ∀ j, sm (fun i => sm (fun k => a i k) e j') d j = sm (fun k => sm (fun i => a i k) d j) e j' := by
  induction d with
  | zero => intro j; simp only [sm]; rw [sm_zero]
  | succ d ih =>
    intro j
    simp only [sm]
    rw [ih (j + 1), sm_add]
theorem sm_anti (a : Nat → Nat → Int) (d j : Nat) (h : ∀ i k, j ≤ i → i < j + d → j ≤ k → k < j + d → a i k = - a k i) : sm (fun i => sm (fun k => a i k) d j) d j = 0 := by
  have h1 := sm_swap a d j d j
  have h2 : sm (fun k => sm (fun i => a i k) d j) d j = - sm (fun i => sm (fun k => a i k) d j) d j := by
    rw [← sm_neg]
    refine sm_congr d j (fun k hk hk2 => ?_)
    rw [← sm_neg]
    exact sm_congr d j (fun i hi hi2 => h i k hi hi2 hk hk2)
  omega

theorem rd_nat (xs : List Int) (i : Nat) : rd xs (i : Int) = xs.getD i 0 := by unfold rd; rw [Int.toNat_natCast]
theorem rdL_nat (xs : List (List Int)) (i : Nat) : rd_L1 xs (i : Int) = xs.getD i [] := by unfold rd_L1; rw [Int.toNat_natCast]

/-- n times n numbers of the ring, the same both ways. -/
def Good (m : Int) (n : Nat) (M : List (List Int)) : Prop :=
  M.length = n ∧ (∀ i, i < n → (M.getD i []).length = n) ∧ ∀ i k, i < n → k < n → (0 ≤ (M.getD i []).getD k 0 ∧ (M.getD i []).getD k 0 < m) ∧ (M.getD i []).getD k 0 = (M.getD k []).getD i 0

theorem getD_set {α : Type} (l : List α) (i j : Nat) (x d : α) (hi : i < l.length) : (l.set i x).getD j d = if i = j then x else l.getD j d := by
  rw [List.getD_eq_getElem?_getD, List.getD_eq_getElem?_getD, List.getElem?_set]
  by_cases h : i = j
  · subst h; simp [hi]
  · simp [h]
theorem put_at (M : List (List Int)) (n i k : Nat) (s : Int) (hM : M.length = n) (hr : ∀ i, i < n → (M.getD i []).length = n) (hi : i < n) (hk : k < n) (hik : i ≠ k) (a b : Nat) (ha : a < n) :
    ((sh_put M i k s).getD a []).length = n ∧ ((sh_put M i k s).getD a []).getD b 0 = if (a = i ∧ b = k) ∨ (a = k ∧ b = i) then s else (M.getD a []).getD b 0 := by
  unfold sh_put
  have h1 : (M.set i ((M.getD i []).set k s)).length = n := by simpa using hM
  have h2 : (M.set i ((M.getD i []).set k s)).getD k [] = M.getD k [] := by rw [getD_set _ _ _ _ _ (by omega), if_neg hik]
  rw [h2, getD_set _ _ _ _ _ (by omega), getD_set _ _ _ _ _ (by omega)]
  by_cases hka : k = a
  · subst hka
    rw [if_pos rfl]
    refine ⟨by simpa using hr k hk, ?_⟩
    rw [getD_set _ _ _ _ _ (by rw [hr k hk]; exact hi)]
    by_cases hb : i = b
    · rw [if_pos hb, if_pos (Or.inr ⟨rfl, hb.symm⟩)]
    · rw [if_neg hb, if_neg (by rintro (h | h) <;> omega)]
  · rw [if_neg hka]
    by_cases hia : i = a
    · subst hia
      rw [if_pos rfl]
      refine ⟨by simpa using hr i hi, ?_⟩
      rw [getD_set _ _ _ _ _ (by rw [hr i hi]; exact hk)]
      by_cases hb : k = b
      · rw [if_pos hb, if_pos (Or.inl ⟨rfl, hb.symm⟩)]
      · rw [if_neg hb, if_neg (by rintro (h | h) <;> omega)]
    · rw [if_neg hia]
      refine ⟨hr a ha, ?_⟩
      rw [if_neg (by rintro (h | h) <;> omega)]
theorem good_put {m : Int} {n : Nat} {M : List (List Int)} (h : Good m n M) {i k : Nat} (hi : i < n) (hk : k < n) (hik : i ≠ k) {s : Int} (h0 : 0 ≤ s) (h1 : s < m) : Good m n (sh_put M i k s) := by
  obtain ⟨g1, g2, g3⟩ := h
  have hp := put_at M n i k s g1 g2 hi hk hik
  refine ⟨by simp [sh_put, g1], fun a ha => (hp a 0 ha).1, fun a b ha hb => ?_⟩
  rw [(hp a b ha).2, (hp b a hb).2]
  obtain ⟨g4, g5⟩ := g3 a b ha hb
  by_cases hc : (a = i ∧ b = k) ∨ (a = k ∧ b = i)
  · rw [if_pos hc, if_pos (by omega)]
    exact ⟨⟨h0, h1⟩, rfl⟩
  · rw [if_neg hc, if_neg (by omega)]
    exact ⟨g4, g5⟩

theorem s_some (m : Int) (hm1 : 2 ≤ m) (hm2 : m ≤ 1073741824) (l : List Int) (c : Nat) : ∃ s, sh_s m l c = some s ∧ 0 ≤ s ∧ s < m := by
  unfold sh_s
  split
  · rw [mod_ref m _ hm1 hm2]
    exact ⟨_, rfl, Int.emod_nonneg _ (by omega), Int.emod_lt_of_pos _ (by omega)⟩
  · exact ⟨0, rfl, by omega, by omega⟩
theorem in_some (m : Int) (hm1 : 2 ≤ m) (hm2 : m ≤ 1073741824) (l : List Int) (n i : Nat) (hi : i < n) (d : Nat) : ∀ (k c : Nat) (M : List (List Int)), i < k → k + d = n → Good m n M → ∃ c' M', sh_in m l i d k c M = some (c', M') ∧ Good m n M' := by
  induction d with
  | zero => intro k c M _ _ h; exact ⟨c, M, rfl, h⟩
  | succ d ih =>
    intro k c M hk hd h
    obtain ⟨s, hs, h0, h1⟩ := s_some m hm1 hm2 l c
    obtain ⟨c', M', h2, h3⟩ := ih (k + 1) (c + 1) _ (by omega) (by omega) (good_put h hi (show k < n by omega) (by omega) h0 h1)
    exact ⟨c', M', by rw [sh_in, hs, Option.bind_some]; exact h2, h3⟩
theorem out_some (m : Int) (hm1 : 2 ≤ m) (hm2 : m ≤ 1073741824) (l : List Int) (n : Nat) (d : Nat) : ∀ (i c : Nat) (M : List (List Int)), i + d = n → Good m n M → ∃ M', sh_out m l n d i c M = some M' ∧ Good m n M' := by
  induction d with
  | zero => intro i c M _ h; exact ⟨M, rfl, h⟩
  | succ d ih =>
    intro i c M hd h
    obtain ⟨c', M1, h1, h2⟩ := in_some m hm1 hm2 l n i (by omega) d (i + 1) c M (by omega) (by omega) h
    obtain ⟨M', h3, h4⟩ := ih (i + 1) c' M1 (by omega) h2
    exact ⟨M', by rw [sh_out, h1, Option.bind_some]; exact h3, h4⟩
theorem good_zero (m : Int) (hm1 : 2 ≤ m) (n : Nat) : Good m n (List.replicate n (List.replicate n 0)) := by
  have h1 : ∀ i, i < n → (List.replicate n (List.replicate n (0 : Int))).getD i [] = List.replicate n 0 := fun i hi => by
    rw [List.getD_eq_getElem?_getD, List.getElem?_replicate, if_pos hi]; rfl
  have h2 : ∀ k, k < n → (List.replicate n (0 : Int)).getD k 0 = 0 := fun k hk => by
    rw [List.getD_eq_getElem?_getD, List.getElem?_replicate, if_pos hk]; rfl
  refine ⟨by simp, fun i hi => by rw [h1 i hi]; simp, fun i k hi hk => ?_⟩
  rw [h1 i hi, h1 k hk, h2 k hk, h2 i hi]
  exact ⟨⟨by omega, by omega⟩, rfl⟩
theorem shares_some (m : Int) (hm1 : 2 ≤ m) (hm2 : m ≤ 1073741824) (n : Nat) (hn : n ≤ 16) (l : List Int) : ∃ M, hushlaw12_shares.f m (n : Int) l = some M ∧ Good m n M := by
  unfold hushlaw12_shares.f
  rw [if_pos (by omega), Int.toNat_natCast]
  exact out_some m hm1 hm2 l n n 0 0 _ (by omega) (good_zero m hm1 n)

/-- The signs: what a member adds, and takes away. -/
def sgf (i k : Nat) (s : Int) : Int := if i < k then s else if k < i then -s else 0
theorem sgn_sm (i : Nat) (row : List Int) (d : Nat) : ∀ j, j + d = row.length → sgn (i : Int) (j : Int) (row.drop j) = sm (fun k => sgf i k (rd row (k : Int))) d j := by
  induction d with
  | zero =>
    intro j hj
    rw [List.drop_eq_nil_of_le (by omega)]
    rfl
  | succ d ih =>
    intro j hj
    have hl : j < row.length := by omega
    have hx : rd row (j : Int) = row[j] := by rw [rd_nat, List.getD_eq_getElem?_getD, List.getElem?_eq_getElem hl]; rfl
    rw [List.drop_eq_getElem_cons hl, sgn, sm, ← ih (j + 1) (by omega), hx]
    unfold sgf
    have e : ((j + 1 : Nat) : Int) = (j : Int) + 1 := by omega
    rw [e]
    by_cases h1 : i < j
    · rw [if_pos h1, if_pos (by omega)]
    · rw [if_neg h1, if_neg (show ¬ ((i : Int) < (j : Int)) by omega)]
      by_cases h2 : j < i
      · rw [if_pos h2, if_pos (by omega)]
      · rw [if_neg h2, if_neg (by omega)]

/-- What member i shows. -/
def yv (m : Int) (numbers : List Int) (M : List (List Int)) (n i : Nat) : Int := (rd numbers (i : Int) % m + sm (fun k => sgf i k ((M.getD i []).getD k 0)) n 0) % m
theorem mask_at (m : Int) (hm1 : 2 ≤ m) (hm2 : m ≤ 1073741824) (n : Nat) (hn1 : 1 ≤ n) (hn2 : n ≤ 16) (M : List (List Int)) (hM : Good m n M) (i : Nat) (hi : i < n) (x : Int) :
    mask_Mask.F m (i : Int) (x % m) (rd_L1 M (i : Int)) = some ((x % m + sm (fun k => sgf i k ((M.getD i []).getD k 0)) n 0) % m, 0) := by
  obtain ⟨g1, g2, g3⟩ := hM
  rw [mask_prog, rdL_nat]
  have hl := g2 i hi
  have h1 := Int.emod_nonneg x (show m ≠ 0 by omega)
  have h2 := Int.emod_lt_of_pos x (show 0 < m by omega)
  have ha : (M.getD i []).any (mask_Mask.out m) = false := by
    rw [List.any_eq_false]
    intro s hs
    obtain ⟨k, hk, rfl⟩ := List.getElem_of_mem hs
    have hk' : k < n := by omega
    obtain ⟨⟨q1, q2⟩, _⟩ := g3 i k hi hk'
    rw [List.getD_eq_getElem?_getD (l := M.getD i []), List.getElem?_eq_getElem hk] at q1 q2
    simp only [Option.getD_some] at q1 q2
    unfold mask_Mask.out
    rw [(in_iff m _).2 ⟨q1, q2⟩]
    decide
  unfold maskV
  rw [hl]
  have ht : teamV m (n : Int) = 0 := by
    unfold teamV
    rw [if_neg (by omega), if_neg (by omega)]
  rw [if_pos ht, if_neg (by rintro (h | h | h | h); omega; omega; exact h ⟨h1, h2⟩; rw [ha] at h; cases h)]
  have hs := sgn_sm i (M.getD i []) n 0 (by omega)
  rw [List.drop_zero] at hs
  rw [show ((0 : Nat) : Int) = 0 from rfl] at hs
  rw [hs]
  have he := sm_congr (f := fun k => sgf i k (rd (M.getD i []) (k : Int))) (g := fun k => sgf i k ((M.getD i []).getD k 0)) n 0 (fun k _ _ => by rw [rd_nat])
  rw [he]

theorem masks_l0 (m : Int) (hm1 : 2 ≤ m) (hm2 : m ≤ 1073741824) (n : Nat) (hn1 : 1 ≤ n) (hn2 : n ≤ 16) (M : List (List Int)) (hM : Good m n M) (numbers : List Int) (hl : numbers.length = n) (d : Nat) :
    ∀ (i : Nat) (Y : List Int), i + d = n → Y = (List.range i).map (yv m numbers M n) → hushlaw12_masks.L0 m M Y numbers (n : Int) (i : Int) = some ((List.range n).map (yv m numbers M n), true) := by
  induction d with
  | zero =>
    intro i Y hi hY
    rw [hushlaw12_masks.L0_eq, if_neg (by omega), hY]
    obtain rfl : i = n := by omega
    rfl
  | succ d ih =>
    intro i Y hi hY
    have hYl : Y.length = i := by rw [hY]; simp
    have ih := ih (i + 1) (Y ++ [yv m numbers M n i]) (by omega) (by rw [hY, List.range_succ, List.map_append]; rfl)
    have hM1 := hM.1
    rw [hushlaw12_masks.L0_eq]
    simp (disch := omega) only [↓if_pos, ↓if_neg, if_true, if_false, decide_eq_true_eq, Bool.false_eq_true, Bool.not_true, Bool.not_false, Bool.not_eq_true, Bool.true_eq, eq_self, Option.bind_some, Option.bind_none, beq_iff_eq, bne_iff_ne, ne_eq, not_true_eq_false, not_false_eq_true, wrap64_of, castS, mod_ref m _ hm1 hm2]
    rw [mask_at m hm1 hm2 n hn1 hn2 M hM i (by omega)]
    simp only [Option.bind_some, if_true]
    exact ih
theorem masks_some (m : Int) (hm1 : 2 ≤ m) (hm2 : m ≤ 1073741824) (n : Nat) (hn1 : 1 ≤ n) (hn2 : n ≤ 16) (M : List (List Int)) (hM : Good m n M) (numbers : List Int) (hl : numbers.length = n) :
    hushlaw12_masks.F m numbers M = some ((List.range n).map (yv m numbers M n), true) := by
  rw [hushlaw12_masks.F_eq, hl]
  exact masks_l0 m hm1 hm2 n hn1 hn2 M hM numbers hl n 0 [] (by omega) rfl
theorem alive_F : hushlaw12_alive.F = some true := by
  rw [hushlaw12_alive.F_eq, mask_prog]
  decide
end Go.Proofs.Ytjehjjpejmdfiaa.Pure

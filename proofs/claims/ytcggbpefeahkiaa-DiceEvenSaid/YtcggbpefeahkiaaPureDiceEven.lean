/- DiceEven's pure statement: of all ways in which so many bits may fall just as many end in each number. Conditions: the numbers are int's. -/
import Derived.Test.YtcggbpefeahkiaaPAx4
import Derived.Test.YtcggbpefeahkiaaEvKit
namespace Go.Proofs.Ytcggbpefeahkiaa.Pure
set_option linter.unusedVariables false
open Go.RowKit Go.Proofs.Ytcggbpefeahkiaa.PA Go.Proofs.YtcggbpefeahkiaaW.PrintWords Go.Proofs.YtcggbpefeahkiaaW.PrintLast Go.Proofs.YtcggbpefeahkiaaW.PrintMore Go.Proofs.YtcggbpefeahkiaaW.EvKit

/-- The bits of a number, the highest first. -/
def bitsS : Nat → Nat → List Int
  | 0, _ => []
  | L + 1, k => bitsS L (k / 2) ++ [((k % 2 : Nat) : Int)]
theorem bitsS_length : ∀ L k, (bitsS L k).length = L
  | 0, _ => rfl
  | L + 1, k => by rw [bitsS, List.length_append, bitsS_length L]; rfl
theorem bitsS_bit : ∀ L k, ∀ x ∈ bitsS L k, x = 0 ∨ x = 1
  | 0, _, x, h => by simp [bitsS] at h
  | L + 1, k, x, h => by
    rw [bitsS] at h
    rcases List.mem_append.1 h with h | h
    · exact bitsS_bit L _ x h
    · rw [List.mem_singleton.1 h]
      omega
theorem bitsS_cons : ∀ L k, k < 2 ^ (L + 1) → bitsS (L + 1) k = ((k / 2 ^ L : Nat) : Int) :: bitsS L (k % 2 ^ L)
  | 0, k, h => by
    have : k < 2 := by simpa using h
    simp [bitsS]
    omega
  | L + 1, k, h => by
    have h1 : k / 2 < 2 ^ (L + 1) := by rw [Nat.pow_succ] at h; omega
    rw [bitsS, bitsS_cons L (k / 2) h1, List.cons_append]
    have e1 : k / 2 / 2 ^ L = k / 2 ^ (L + 1) := by rw [Nat.div_div_eq_div_mul, Nat.pow_succ, Nat.mul_comm]
    have e2 : k / 2 % 2 ^ L = k % 2 ^ (L + 1) / 2 := by rw [Nat.pow_succ, Nat.mul_comm (2 ^ L) 2, Nat.mod_mul_right_div_self]
    have e3 : k % 2 = k % 2 ^ (L + 1) % 2 := by rw [Nat.mod_mod_of_dvd]; exact ⟨2 ^ L, by rw [Nat.pow_succ, Nat.mul_comm]⟩
    rw [e1, e2, e3]
    rfl

theorem tm2 (x : Nat) : Int.tmod (x : Int) 2 = ((x % 2 : Nat) : Int) := by rw [Int.tmod_eq_emod_of_nonneg (by omega)]; rfl
theorem td2 (x : Nat) (h : x ≤ 1024) : wrap64 (Int.tdiv (x : Int) 2) = ((x / 2 : Nat) : Int) := by
  rw [Int.tdiv_eq_ediv_of_nonneg (by omega), wrap64_of (by omega) (by omega)]; rfl

theorem digits_l0 : ∀ (i q : Nat) (s : List Int), q ≤ 1024 → i ≤ 64 → Ev (fun k => hushlaw3_digits.l0 k (q : Int) (List.replicate i 0 ++ s) ((i : Int) - 1)) (bitsS i q ++ s) := by
  intro i
  induction i with
  | zero =>
    intro q s _ _
    exact Ev.step (fun k => hushlaw3_digits.l0.eq_2 _ _ _ k) (Ev.neg (by omega) (Ev.ret _))
  | succ i ih =>
    intro q s hq hi
    have e0 : (((i + 1 : Nat) : Int) - 1) = (i : Int) := by omega
    rw [e0]
    have hlen : (List.replicate (i + 1) (0 : Int) ++ s).length = i + 1 + s.length := by simp
    refine Ev.step (fun k => hushlaw3_digits.l0.eq_2 _ _ _ k) (Ev.pos (by omega) (Ev.pos (by omega) (Ev.pos (by omega) ?_)))
    have e1 : (List.replicate (i + 1) (0 : Int) ++ s).set (i : Int).toNat (Int.tmod (q : Int) 2) = List.replicate i 0 ++ (((q % 2 : Nat) : Int) :: s) := by
      rw [tm2, Int.toNat_natCast, List.replicate_succ', List.append_assoc, List.set_append_right _ _ (by simp)]
      simp
    have e2 : wrap64 ((i : Int) - 1) = (i : Int) - 1 := wrap64_of (by omega) (by omega)
    rw [e1, e2, td2 q hq]
    have h := ih (q / 2) (((q % 2 : Nat) : Int) :: s) (by omega) (by omega)
    rw [bitsS, List.append_assoc]
    exact h

theorem digits_ev (L q : Nat) (hq : q ≤ 1024) (hL : L ≤ 64) : Ev (fun k => hushlaw3_digits.f k (q : Int) (L : Int)) (bitsS L q) := by
  have e2 : wrap64 ((L : Int) - 1) = (L : Int) - 1 := wrap64_of (by omega) (by omega)
  refine Ev.pos (by omega) (Ev.pos (by omega) ?_)
  rw [e2, Int.toNat_natCast]
  have h := digits_l0 L q [] hq hL
  rw [List.append_nil, List.append_nil] at h
  exact h

/-- Where the bits X, behind numbers that are below v, end. -/
def outX (n : Nat) : Nat → Nat → Nat → Option Nat
  | 0, _, _ => none
  | L + 1, v, X => if n ≤ 2 * v then (if X / 2 ^ L < n then some (X / 2 ^ L) else outX n L (2 * v - n) (X - n * 2 ^ L)) else outX n L (2 * v) X

/-- What is drawn. -/
def Drawn (o : Option Nat) (lst : List S30) : Prop := match o with
  | some j => ∃ u : Int, lst = [⟨[(j : Int)], u⟩]
  | none => lst = []

theorem rd_drop (l : List Int) (i : Nat) (x : Int) (rest : List Int) (h : l.drop i = x :: rest) : rd l (i : Int) = x := by
  unfold rd
  rw [Int.toNat_natCast]
  exact (getD_drop l _ i x rest h).1

theorem evens_end (n : Nat) (B : List Int) (v c : Nat) (used : Nat) (hn : n ≤ 64) (hv : n ≤ v) (hc : c < n) (hu : used ≤ B.length) :
    Ev (fun k => dice_Evens.l0 k (n : Int) B 1 [] (v : Int) (c : Int) (used : Int)) ([⟨[(c : Int)], (used : Int)⟩], 0) := by
  refine Ev.step (fun k => dice_Evens.l0.eq_2 _ _ _ _ _ _ _ k) (Ev.pos (by simp) (Ev.pos (by omega) ?_))
  have e : decide ((c : Int) < (n : Int)) = true := decide_eq_true (by omega)
  rw [e]
  refine Ev.step (fun k => dice_Evens.j2.eq_2 _ _ _ _ _ _ _ _ k) (Ev.pos rfl (Ev.pos (by simp) (Ev.pos (by omega) (Ev.pos (by omega) ?_))))
  exact Ev.step (fun k => dice_Evens.l0.eq_2 _ _ _ _ _ _ _ k) (Ev.neg (by simp) (Ev.ret _))

theorem evens_step (n : Nat) (B : List Int) (v c c2 b used : Nat) (hn : n ≤ 64) (hB : B.length ≤ 64) (hv : v < n) (hu : used < B.length) (hrd : rd B (used : Int) = (b : Int)) (hb : b ≤ 1) (hc : c < v) (ec : 2 * c + b = c2) {r : List S30 × Int}
    (h : Ev (fun k => dice_Evens.l0 k (n : Int) B 1 [] ((2 * v : Nat) : Int) (c2 : Int) ((used + 1 : Nat) : Int)) r) : Ev (fun k => dice_Evens.l0 k (n : Int) B 1 [] (v : Int) (c : Int) (used : Int)) r := by
  have hw1 : wrap64 ((used : Int) + 1) = ((used + 1 : Nat) : Int) := by rw [wrap64_of (by omega) (by omega)]; omega
  have hwv : wrap64 (2 * (v : Int)) = ((2 * v : Nat) : Int) := by rw [wrap64_of (by omega) (by omega)]; omega
  have hwc : wrap64 (wrap64 (2 * (c : Int)) + (b : Int)) = (c2 : Int) := by rw [wrap64_of (x := 2 * (c : Int)) (by omega) (by omega), wrap64_of (by omega) (by omega)]; omega
  refine Ev.step (fun k => dice_Evens.l0.eq_2 _ _ _ _ _ _ _ k) (Ev.pos (by simp) (Ev.neg (by omega) ?_))
  refine Ev.step (fun k => dice_Evens.j2.eq_2 _ _ _ _ _ _ _ _ k) (Ev.neg (by simp) (Ev.neg (by omega) (Ev.neg (by omega) (Ev.pos (by omega) (Ev.pos (by omega) ?_)))))
  rw [hrd, hwv, hwc, hw1]
  exact h

theorem evens_sub (n : Nat) (B : List Int) (v2 c2 used : Nat) (hn : n ≤ 64) (hv : n ≤ v2) (hv2 : v2 < 2 * n) (hc : n ≤ c2) (hc2 : c2 < v2) {r : List S30 × Int}
    (h : Ev (fun k => dice_Evens.l0 k (n : Int) B 1 [] ((v2 - n : Nat) : Int) ((c2 - n : Nat) : Int) (used : Int)) r) : Ev (fun k => dice_Evens.l0 k (n : Int) B 1 [] (v2 : Int) (c2 : Int) (used : Int)) r := by
  have w1 : wrap64 ((v2 : Int) - (n : Int)) = ((v2 - n : Nat) : Int) := by rw [wrap64_of (by omega) (by omega)]; omega
  have w2 : wrap64 ((c2 : Int) - (n : Int)) = ((c2 - n : Nat) : Int) := by rw [wrap64_of (by omega) (by omega)]; omega
  refine Ev.step (fun k => dice_Evens.l0.eq_2 _ _ _ _ _ _ _ k) (Ev.pos (by simp) (Ev.pos (by omega) ?_))
  have e : decide ((c2 : Int) < (n : Int)) = false := decide_eq_false (by omega)
  rw [e]
  refine Ev.step (fun k => dice_Evens.j2.eq_2 _ _ _ _ _ _ _ _ k) (Ev.neg (by simp) (Ev.pos (by omega) ?_))
  rw [w1, w2]
  exact h

theorem sub_lt_self {v n : Nat} (h : v < n) (h' : n ≤ 2 * v) : 2 * v - n < n := by omega
theorem two_lt {v n : Nat} (h : v < n) : 2 * v < 2 * n := by omega
theorem half_lt {b P : Nat} (h : b < P * 2) : b / P ≤ 1 := by
  have : b / P < 2 := Nat.div_lt_of_lt_mul h
  exact Nat.le_of_lt_succ this
theorem two_q {c b q : Nat} (h1 : c = q / 2) (h2 : b = q % 2) : 2 * c + b = q := by omega

theorem evens_l0 (n : Nat) (B : List Int) (hn : n ≤ 64) (hB : B.length ≤ 64) : ∀ (L v X used : Nat), v < n → X < v * 2 ^ L → used + L = B.length → B.drop used = bitsS L (X % 2 ^ L) →
    ∃ lst, Ev (fun k => dice_Evens.l0 k (n : Int) B 1 [] (v : Int) ((X / 2 ^ L : Nat) : Int) (used : Int)) (lst, 0) ∧ Drawn (outX n L v X) lst := by
  intro L
  induction L with
  | zero =>
    intro v X used hv hX hu hd
    refine ⟨[], Ev.step (fun k => dice_Evens.l0.eq_2 _ _ _ _ _ _ _ k) (Ev.pos (by simp) (Ev.neg (by omega) ?_)), rfl⟩
    exact Ev.step (fun k => dice_Evens.j2.eq_2 _ _ _ _ _ _ _ _ k) (Ev.neg (by simp) (Ev.neg (by omega) (Ev.pos (by omega) (Ev.ret _))))
  | succ L ih =>
    intro v X used hv hX hu hd
    have hp : 0 < 2 ^ L := Nat.two_pow_pos L
    have hmod : X % 2 ^ (L + 1) < 2 ^ (L + 1) := Nat.mod_lt _ (Nat.two_pow_pos _)
    rw [bitsS_cons L _ hmod] at hd
    have hrd := rd_drop B used _ _ hd
    have hd1 := (getD_drop B 0 used _ _ hd).2.2
    have em : X % 2 ^ (L + 1) % 2 ^ L = X % 2 ^ L := Nat.mod_mod_of_dvd X ⟨2, by rw [Nat.pow_succ]⟩
    rw [em] at hd1
    have ec : 2 * (X / 2 ^ (L + 1)) + X % 2 ^ (L + 1) / 2 ^ L = X / 2 ^ L := by
      rw [Nat.pow_succ, Nat.mod_mul_right_div_self, ← Nat.div_div_eq_div_mul]
      exact two_q rfl rfl
    have hX2 : X < 2 * v * 2 ^ L := by rw [Nat.pow_succ] at hX; rw [Nat.mul_comm 2 v, Nat.mul_assoc, Nat.mul_comm 2]; exact hX
    have hc2 : X / 2 ^ L < 2 * v := Nat.div_lt_of_lt_mul (by rw [Nat.mul_comm]; exact hX2)
    have hc1 : X / 2 ^ (L + 1) < v := Nat.div_lt_of_lt_mul (by rw [Nat.mul_comm]; exact hX)
    have hbit : X % 2 ^ (L + 1) / 2 ^ L ≤ 1 := half_lt (by rw [Nat.pow_succ] at hmod; exact hmod)
    have step := fun {r : List S30 × Int} => evens_step n B v (X / 2 ^ (L + 1)) (X / 2 ^ L) (X % 2 ^ (L + 1) / 2 ^ L) used hn hB hv (getD_drop B 0 used _ _ hd).2.1 hrd hbit hc1 ec (r := r)
    have hu1 : used + 1 + L = B.length := by rw [Nat.add_assoc, Nat.add_comm 1 L]; exact hu
    unfold outX
    by_cases hge : n ≤ 2 * v
    · rw [if_pos hge]
      by_cases hlt : X / 2 ^ L < n
      · rw [if_pos hlt]
        exact ⟨_, step (evens_end n B (2 * v) (X / 2 ^ L) (used + 1) hn hge hlt (Nat.le_trans (Nat.le_add_right _ _) (Nat.le_of_eq hu1))), _, rfl⟩
      · rw [if_neg hlt]
        have hnX : n * 2 ^ L ≤ X := by
          exact Nat.le_trans (Nat.mul_le_mul_right _ (Nat.not_lt.1 hlt)) (Nat.div_mul_le_self X (2 ^ L))
        have hdiv : (X - n * 2 ^ L) / 2 ^ L = X / 2 ^ L - n := by rw [Nat.mul_comm n, Nat.sub_mul_div]
        have hmod' : (X - n * 2 ^ L) % 2 ^ L = X % 2 ^ L := by
          conv => rhs; rw [← Nat.sub_add_cancel hnX]
          rw [Nat.add_mul_mod_self_right]
        have hXs : X - n * 2 ^ L < (2 * v - n) * 2 ^ L := by rw [Nat.sub_mul]; exact Nat.sub_lt_sub_right hnX hX2
        obtain ⟨lst, hE, hD⟩ := ih (2 * v - n) (X - n * 2 ^ L) (used + 1) (sub_lt_self hv hge) hXs hu1 (by rw [hmod']; exact hd1)
        rw [hdiv] at hE
        exact ⟨lst, step (evens_sub n B (2 * v) (X / 2 ^ L) (used + 1) hn hge (two_lt hv) (Nat.not_lt.1 hlt) hc2 hE), hD⟩
    · rw [if_neg hge]
      obtain ⟨lst, hE, hD⟩ := ih (2 * v) X (used + 1) (Nat.not_le.1 hge) hX2 hu1 hd1
      exact ⟨lst, step hE, hD⟩

/-! ### how many end -/
theorem count_div (q : Nat) (hq : 0 < q) (j : Nat) : ∀ n, (List.range (n * q)).countP (fun X => X / q == j) = if j < n then q else 0
  | 0 => by simp
  | n + 1 => by
    rw [Nat.add_mul, Nat.one_mul, List.range_add, List.countP_append, count_div q hq j n, List.countP_map]
    have e : (List.range q).countP ((fun X => X / q == j) ∘ fun x => n * q + x) = if n = j then q else 0 := by
      have h : ∀ x ∈ List.range q, (((fun X => X / q == j) ∘ fun x => n * q + x) x = true ↔ (fun _ => decide (n = j)) x = true) := by
        intro x hx
        have hx := List.mem_range.1 hx
        have : (n * q + x) / q = n := by rw [Nat.mul_comm, Nat.mul_add_div hq, Nat.div_eq_of_lt hx, Nat.add_zero]
        simp [this]
      rw [List.countP_congr h]
      by_cases hn : n = j
      · simp [hn]
      · simp [hn]
    rw [e]
    by_cases h1 : j < n
    · rw [if_pos h1, if_neg (by omega), if_pos (by omega)]
      omega
    · by_cases h2 : n = j
      · rw [if_neg h1, if_pos h2, if_pos (by omega)]
        omega
      · rw [if_neg h1, if_neg h2, if_neg (by omega)]

theorem count_out (n : Nat) (j : Nat) (hj : j < n) : ∀ (L v : Nat), v < n → (List.range (v * 2 ^ L)).countP (fun X => outX n L v X == some j) = v * 2 ^ L / n
  | 0, v, hv => by
    rw [Nat.pow_zero, Nat.mul_one, Nat.div_eq_of_lt hv]
    simp [outX]
  | L + 1, v, hv => by
    have hp : 0 < 2 ^ L := Nat.two_pow_pos L
    have e : v * 2 ^ (L + 1) = 2 * v * 2 ^ L := by rw [Nat.pow_succ, Nat.mul_comm 2 v, Nat.mul_assoc, Nat.mul_comm 2]
    rw [e]
    by_cases hge : n ≤ 2 * v
    · have e2 : 2 * v * 2 ^ L = n * 2 ^ L + (2 * v - n) * 2 ^ L := by rw [← Nat.add_mul]; congr 1; omega
      rw [e2, List.range_add, List.countP_append, List.countP_map]
      have c1 : (List.range (n * 2 ^ L)).countP (fun X => outX n (L + 1) v X == some j) = 2 ^ L := by
        have h : ∀ x ∈ List.range (n * 2 ^ L), ((outX n (L + 1) v x == some j) = true ↔ (x / 2 ^ L == j) = true) := by
          intro x hx
          have hx := List.mem_range.1 hx
          have hlt : x / 2 ^ L < n := Nat.div_lt_of_lt_mul (by rw [Nat.mul_comm]; exact hx)
          unfold outX
          rw [if_pos hge, if_pos hlt]
          simp
        rw [List.countP_congr h, count_div _ hp, if_pos hj]
      have c2 : (List.range ((2 * v - n) * 2 ^ L)).countP ((fun X => outX n (L + 1) v X == some j) ∘ fun x => n * 2 ^ L + x) = (2 * v - n) * 2 ^ L / n := by
        rw [← count_out n j hj L (2 * v - n) (by omega)]
        refine List.countP_congr (fun x hx => ?_)
        have hd : ¬ (n * 2 ^ L + x) / 2 ^ L < n := by
          rw [Nat.mul_comm, Nat.mul_add_div hp]
          exact Nat.not_lt.2 (Nat.le_add_right _ _)
        simp only [Function.comp]
        conv => lhs; unfold outX
        rw [if_pos hge, if_neg hd, Nat.add_sub_cancel_left]
      rw [c1, c2, Nat.mul_add_div (by omega)]
    · rw [← count_out n j hj L (2 * v) (by omega)]
      refine List.countP_congr (fun x hx => ?_)
      conv => lhs; unfold outX
      rw [if_neg hge]

theorem out_lt (n : Nat) : ∀ (L v X j : Nat), outX n L v X = some j → j < n
  | 0, _, _, _, h => by simp [outX] at h
  | L + 1, v, X, j, h => by
    unfold outX at h
    split at h
    · split at h
      · rename_i h1
        injection h with h
        omega
      · exact out_lt n L _ _ j h
    · exact out_lt n L _ _ j h

/-- What comes of a number's bits. -/
def oc (n L k : Nat) : Option Nat := if n = 1 then some 0 else outX n L 1 k
theorem oc_lt (n L k j : Nat) (hn : 1 ≤ n) (h : oc n L k = some j) : j < n := by
  unfold oc at h
  split at h
  · injection h; omega
  · exact out_lt n L 1 k j h
def cnt (n L k j : Nat) : Nat := (List.range k).countP (fun X => oc n L X == some j)
theorem cnt_all (n L j : Nat) (hn : 1 ≤ n) (hj : j < n) : cnt n L (2 ^ L) j = 2 ^ L / n := by
  unfold cnt oc
  by_cases h : n = 1
  · subst h
    have : j = 0 := by omega
    subst this
    simp
  · simp only [if_neg h]
    have := count_out n j hj L 1 (by omega)
    rw [Nat.one_mul] at this
    exact this
theorem cnt_succ (n L k j : Nat) : cnt n L (k + 1) j = cnt n L k j + if oc n L k = some j then 1 else 0 := by
  unfold cnt
  rw [List.range_succ, List.countP_append]
  congr 1
  by_cases h : oc n L k = some j <;> simp [h]

theorem bits_fine (L q : Nat) (hL : L ≤ 9) : dice_wrong.f (bitsS L q) 1 = some 0 := by
  have hl := bitsS_length L q
  unfold dice_wrong.f dice_wrong.val
  rw [if_neg (by omega), if_neg (by omega), if_neg]
  unfold dice_wrong.bad
  rw [Bool.not_eq_true, List.any_eq_false]
  intro x hx
  rcases bitsS_bit L q x hx with rfl | rfl <;> simp [dice_wrong.isBad]

theorem evens_ev (n L q : Nat) (hn : 1 ≤ n) (hn2 : n ≤ 64) (hL : L ≤ 9) (hq : q < 2 ^ L) : ∃ lst, Ev (fun k => dice_Evens.f k (n : Int) (bitsS L q) 1) (lst, 0) ∧ Drawn (oc n L q) lst := by
  have hl := bitsS_length L q
  have main : ∃ lst, Ev (fun k => dice_Evens.l0 k (n : Int) (bitsS L q) 1 [] 1 0 0) (lst, 0) ∧ Drawn (oc n L q) lst := by
    unfold oc
    by_cases h1 : n = 1
    · subst h1
      exact ⟨_, evens_end 1 (bitsS L q) 1 0 0 (by omega) (by omega) (by omega) (by omega), _, rfl⟩
    · rw [if_neg h1]
      have hdq : q / 2 ^ L = 0 := Nat.div_eq_of_lt hq
      have hmq : q % 2 ^ L = q := Nat.mod_eq_of_lt hq
      have h := evens_l0 n (bitsS L q) hn2 (by rw [hl]; exact Nat.le_trans hL (by decide)) L 1 q 0 (by clear hq hdq hmq; omega) (by rw [Nat.one_mul]; exact hq) (by rw [hl, Nat.zero_add]) (by rw [hmq]; rfl)
      rw [hdq] at h
      exact h
  obtain ⟨lst, hE, hD⟩ := main
  refine ⟨lst, Ev.neg (by omega) ?_, hD⟩
  have e : decide ((n : Int) > 1073741824) = false := decide_eq_false (by omega)
  rw [e]
  exact Ev.step (fun k => dice_Evens.j0.eq_2 _ _ _ _ k) (Ev.neg (by simp) (Ev.bind (Ev.const (bits_fine L q hL)) (Ev.pos rfl hE)))

/-- The counts so far. -/
def cntL (n L k : Nat) : List Int := (List.range n).map fun j => ((cnt n L k j : Nat) : Int)
theorem cntL_length (n L k : Nat) : (cntL n L k).length = n := by simp [cntL]
theorem cntL_rd (n L k j : Nat) (hj : j < n) : rd (cntL n L k) (j : Int) = ((cnt n L k j : Nat) : Int) := by
  unfold rd cntL
  rw [Int.toNat_natCast, List.getD_eq_getElem?_getD, List.getElem?_map, List.getElem?_range hj]
  rfl
theorem cntL_none (n L k : Nat) (h : oc n L k = none) : cntL n L (k + 1) = cntL n L k := by
  unfold cntL
  refine List.map_congr_left (fun j _ => ?_)
  rw [cnt_succ, h]
  simp
theorem cntL_some (n L k j : Nat) (h : oc n L k = some j) : (cntL n L k).set j (((cnt n L k j : Nat) : Int) + 1) = cntL n L (k + 1) := by
  refine List.ext_getElem (by simp [cntL]) (fun i h1 h2 => ?_)
  rw [List.getElem_set]
  simp only [cntL, List.getElem_map, List.getElem_range]
  rw [cnt_succ n L k i, h]
  by_cases hij : j = i
  · subst hij
    simp
  · rw [if_neg hij, if_neg (by simp [hij])]
    simp
theorem sum_set : ∀ (l : List Int) (j : Nat) (x : Int), j < l.length → (l.set j x).sum = l.sum - l.getD j 0 + x
  | [], j, x, h => by simp at h
  | y :: l, 0, x, h => by simp; omega
  | y :: l, j + 1, x, h => by
    have := sum_set l j x (by simpa using h)
    simp only [List.set_cons_succ, List.sum_cons, List.getD_cons_succ, this]
    omega
theorem cnt_le (n L k j : Nat) : cnt n L k j ≤ k := by
  unfold cnt
  have := List.countP_le_length (p := fun X => oc n L X == some j) (l := List.range k)
  rwa [List.length_range] at this

theorem even_l2 (n : Nat) (hn : 1 ≤ n) (hn2 : n ≤ 64) (A : Nat) (hA : A ≤ 512) (ended : Int) (he : 0 ≤ ended ∧ ended ≤ 512) (hlt : (A : Int) - ended < n) (l : List Int) (hl : l.length = n) : ∀ (d i : Nat), i + d = n → (∀ j, j < n → rd l (j : Int) = ((A / n : Nat) : Int)) →
    Ev (fun k => hushlaw3_DiceEven.l2 k (n : Int) (A : Int) ended l (n : Int) (i : Int)) true := by
  intro d
  induction d with
  | zero =>
    intro i hi _
    have hw : wrap64 ((A : Int) - ended) = (A : Int) - ended := wrap64_of (by omega) (by omega)
    refine Ev.step (fun k => hushlaw3_DiceEven.l2.eq_2 _ _ _ _ _ _ k) (Ev.neg (by omega) (Ev.eq (Ev.ret _) ?_))
    rw [hw]
    exact decide_eq_true hlt
  | succ d ih =>
    intro i hi hall
    have hw1 : wrap64 ((i : Int) + 1) = ((i + 1 : Nat) : Int) := by rw [wrap64_of (by omega) (by omega)]; omega
    have hq : wrap64 (Int.tdiv (A : Int) (n : Int)) = ((A / n : Nat) : Int) := by
      have hle : A / n ≤ A := Nat.div_le_self _ _
      rw [Int.tdiv_eq_ediv_of_nonneg (by omega)]
      show wrap64 ((A / n : Nat) : Int) = _
      generalize A / n = r at hle ⊢
      exact wrap64_of (by omega) (by omega)
    refine Ev.step (fun k => hushlaw3_DiceEven.l2.eq_2 _ _ _ _ _ _ k) (Ev.pos (by omega) (Ev.pos (by omega) (Ev.pos (by omega) (Ev.neg (by omega) (Ev.pos (by rw [hall i (by omega), hq]) ?_)))))
    rw [hw1]
    exact ih (i + 1) (by omega) hall

theorem even_l1 (n L : Nat) (hn : 1 ≤ n) (hn2 : n ≤ 64) (hL : L ≤ 9) (A : Nat) (hA : A = 2 ^ L) (hA2 : A ≤ 512) : ∀ (d q : Nat), q + d = A →
    Ev (fun k => hushlaw3_DiceEven.l1 k (n : Int) (L : Int) (A : Int) (cntL n L q) (cntL n L q).sum (q : Int)) true := by
  have hsum : ∀ q, q ≤ A → 0 ≤ (cntL n L q).sum ∧ (cntL n L q).sum ≤ q := by
    intro q
    induction q with
    | zero =>
      intro _
      have : cntL n L 0 = List.replicate n 0 := by
        unfold cntL cnt
        refine List.ext_getElem (by simp) (fun i h1 h2 => by simp)
      rw [this]
      simp
    | succ q ih =>
      intro hq
      have h := ih (by omega)
      cases ho : oc n L q with
      | none =>
        rw [cntL_none n L q ho]
        omega
      | some j =>
        have hj := oc_lt n L q j hn ho
        have hr := cntL_rd n L q j hj
        unfold rd at hr
        rw [Int.toNat_natCast] at hr
        rw [← cntL_some n L q j ho, sum_set _ _ _ (by rw [cntL_length]; exact hj), hr]
        omega
  intro d
  induction d with
  | zero =>
    intro q hq
    obtain rfl : q = A := by omega
    have hl := cntL_length n L q
    have hs := hsum q (Nat.le_refl _)
    refine Ev.step (fun k => hushlaw3_DiceEven.l1.eq_2 _ _ _ _ _ _ k) (Ev.neg (by omega) ?_)
    have hall : ∀ j, j < n → cnt n L q j = q / n := by
      intro j hj
      rw [hA]
      exact cnt_all n L j hn hj
    have hrep : cntL n L q = List.replicate n ((q / n : Nat) : Int) := by
      unfold cntL
      refine List.ext_getElem (by simp) (fun i h1 h2 => ?_)
      simp only [List.getElem_map, List.getElem_range, List.getElem_replicate]
      rw [hall i (by simpa using h2)]
    have hsumq : (cntL n L q).sum = ((n * (q / n) : Nat) : Int) := by
      rw [hrep, List.sum_replicate_int]
      simp
    rw [hl]
    refine even_l2 n hn hn2 q hA2 _ ⟨hs.1, by omega⟩ ?_ _ hl n 0 (by omega) (fun j hj => by rw [cntL_rd n L q j hj, hall j hj])
    rw [hsumq]
    have h1 := Nat.div_add_mod q n
    have h2 := Nat.mod_lt q (show n > 0 by omega)
    generalize n * (q / n) = z at *
    omega
  | succ d ih =>
    intro q hq
    have hw1 : wrap64 ((q : Int) + 1) = ((q + 1 : Nat) : Int) := by rw [wrap64_of (by omega) (by omega)]; omega
    obtain ⟨lst, hE, hD⟩ := evens_ev n L q hn hn2 hL (by rw [← hA]; omega)
    have hs := hsum q (by omega)
    have hnext := ih (q + 1) (by omega)
    refine Ev.step (fun k => hushlaw3_DiceEven.l1.eq_2 _ _ _ _ _ _ k) (Ev.pos (by omega) (Ev.bind (digits_ev L q (by omega) (by omega)) (Ev.bind hE (Ev.pos rfl ?_))))
    dsimp only
    cases ho : oc n L q with
    | none =>
      rw [ho] at hD
      have hD' : lst = [] := hD
      subst hD'
      refine Ev.step (fun k => hushlaw3_DiceEven.j3.eq_2 _ _ _ _ _ _ _ _ k) (Ev.neg (by simp) (Ev.pos rfl ?_))
      rw [cntL_none n L q ho] at hnext
      rw [hw1]
      exact hnext
    | some j =>
      rw [ho] at hD
      obtain ⟨u, hD'⟩ : ∃ u : Int, lst = [⟨[(j : Int)], u⟩] := hD
      subst hD'
      have hj := oc_lt n L q j hn ho
      have e1 : (rd_T30 [(⟨[(j : Int)], u⟩ : S30)] 0).f0 = [(j : Int)] := rfl
      have e2 : rd [(j : Int)] 0 = (j : Int) := rfl
      have hlen := cntL_length n L q
      have hcl := cnt_le n L q j
      refine Ev.step (fun k => hushlaw3_DiceEven.j3.eq_2 _ _ _ _ _ _ _ _ k) (Ev.neg (by simp) (Ev.neg (by simp) (Ev.pos (by simp) ?_)))
      rw [e1, e2]
      refine Ev.pos (by simp) (Ev.pos (by simp) (Ev.neg (by omega) (Ev.neg (by omega) (Ev.pos (by omega) (Ev.pos (by omega) ?_)))))
      have hr := cntL_rd n L q j hj
      have hr' : (cntL n L q).getD j 0 = ((cnt n L q j : Nat) : Int) := by
        unfold rd at hr
        rwa [Int.toNat_natCast] at hr
      have hsn : (cntL n L (q + 1)).sum = (cntL n L q).sum + 1 := by
        rw [← cntL_some n L q j ho, sum_set _ _ _ (by rw [hlen]; exact hj), hr']
        omega
      have w2 : wrap64 ((cntL n L q).sum + 1) = (cntL n L (q + 1)).sum := by rw [hsn]; exact wrap64_of (by omega) (by omega)
      rw [hr, wrap64_of (x := ((cnt n L q j : Nat) : Int) + 1) (by omega) (by omega), Int.toNat_natCast, cntL_some n L q j ho, w2, hw1]
      exact hnext

theorem even_l0 (n L : Nat) (hn : 1 ≤ n) (hn2 : n ≤ 64) (hL : L ≤ 9) : ∀ (d i : Nat), i + d = L → Ev (fun k => hushlaw3_DiceEven.l0 k (n : Int) (L : Int) ((2 ^ i : Nat) : Int) (i : Int)) true := by
  intro d
  induction d with
  | zero =>
    intro i hi
    obtain rfl : i = L := by omega
    have hA : 2 ^ i ≤ 2 ^ 9 := Nat.pow_le_pow_right (by decide) hL
    refine Ev.step (fun k => hushlaw3_DiceEven.l0.eq_2 _ _ _ _ k) (Ev.neg (by omega) (Ev.pos (by omega) (Ev.pos (by omega) ?_)))
    have h := even_l1 n i hn hn2 hL (2 ^ i) rfl hA (2 ^ i) 0 (Nat.zero_add _)
    have e : cntL n i 0 = List.replicate n 0 := by
      unfold cntL cnt
      refine List.ext_getElem (by simp) (fun i h1 h2 => by simp)
    rw [e] at h
    rw [Int.toNat_natCast]
    have e2 : (List.replicate n (0 : Int)).sum = 0 := by simp
    rw [e2] at h
    exact h
  | succ d ih =>
    intro i hi
    have h := ih (i + 1) (by omega)
    have hA : 2 ^ (i + 1) ≤ 2 ^ 9 := Nat.pow_le_pow_right (by decide) (by omega)
    have e : 2 ^ (i + 1) = 2 * 2 ^ i := by rw [Nat.pow_succ, Nat.mul_comm]
    have hw1 : wrap64 ((i : Int) + 1) = ((i + 1 : Nat) : Int) := by rw [wrap64_of (by omega) (by omega)]; omega
    refine Ev.step (fun k => hushlaw3_DiceEven.l0.eq_2 _ _ _ _ k) (Ev.pos (by omega) ?_)
    have hw2 : wrap64 (2 * ((2 ^ i : Nat) : Int)) = ((2 ^ (i + 1) : Nat) : Int) := by
      rw [e] at hA ⊢
      generalize 2 ^ i = P at *
      rw [wrap64_of (by omega) (by omega)]
      omega
    rw [hw1, hw2]
    exact h

theorem alive_ev : Ev (fun k => hushlaw3_alive.f k) true := Ev.of hushlaw3_alive.mono (k := 20) (by decide +kernel)

theorem DiceEven : hushlaw3_DiceEven.Pure := by
  intro n L _ _
  have out : ∀ {b : Bool}, b = true → Ev (fun k => hushlaw3_DiceEven.j0 k n L b) true := fun hb => Ev.step (fun k => hushlaw3_DiceEven.j0.eq_2 _ _ _ k) (Ev.pos hb (Ev.ret _))
  refine Ev.rounds (Ev.bind alive_ev (Ev.pos rfl ?_))
  by_cases h0 : n < 1
  · exact Ev.pos h0 (out rfl)
  · by_cases h1 : n > 64
    · exact Ev.neg h0 (Ev.pos h1 (out rfl))
    · by_cases h2 : L < 0
      · exact Ev.neg h0 (Ev.neg h1 (Ev.pos h2 (out rfl)))
      · refine Ev.neg h0 (Ev.neg h1 (Ev.neg h2 ?_))
        by_cases h3 : L > 9
        · exact out (decide_eq_true h3)
        · obtain ⟨m, rfl⟩ : ∃ m : Nat, n = m := ⟨n.toNat, by omega⟩
          obtain ⟨l, rfl⟩ : ∃ l : Nat, L = l := ⟨L.toNat, by omega⟩
          exact Ev.step (fun k => hushlaw3_DiceEven.j0.eq_2 _ _ _ k) (Ev.neg (by simp; omega) (even_l0 m l (by omega) (by omega) (by omega) l 0 (by omega)))
end Go.Proofs.Ytcggbpefeahkiaa.Pure
